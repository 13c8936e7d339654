/- The layer of own lemmas and contracts, part 2. -/
import Derived.Test.YtpghcedmmpcfeabGreatDoorP1
import Derived.Lib.AppendStr
import Derived.Laws.StructEq
import Derived.MapKept
import Derived.OrdersIn
import Derived.RangeFuncLeaves
import Derived.RangeFuncSeq
set_option linter.unusedVariables false
set_option linter.unusedSimpArgs false
namespace Go.Ide
open Go.RowKit
section
variable {C:BA} {F:AY} {ρ:Lk} {H:Hp} {w:World}
theorem Al.rename {H1 H2:Hp}{e:At}{b k n:Nat}(m:Al C F ρ (H1++e::H2) w)(hb:ρ e.k e.g=some b)(hn:ρ k n=none)(hne:∀e'∈H1++e::H2,e'.g≠n):
  Al C F (ρ.put k n b) (⟨k,n,e.T,e.sz,e.es⟩::(H1++H2)) w/\BZ ρ (AN F.X ρ (H1++e::H2)) w (ρ.put k n b) (AN F.X (ρ.put k n b) (⟨k,n,e.T,e.sz,e.es⟩::(H1++H2))) w:=by
 have hold:∀e'∈H1++e::H2,∀b',ρ.put k n b e'.k e'.g=some b'↔ρ e'.k e'.g=some b':=λe' he' b'=>by
  unfold Lk.put;rw[AG λh=>hne e' he' h.2]
 have hmem:∀e',e'∈H1++e::H2↔e'=e\/e'∈H1++H2:=λe'=>by simp;constructor<;>(rintro(h|h|h)<;>simp[h])
 have hO:∀b',AN F.X (ρ.put k n b) (⟨k,n,e.T,e.sz,e.es⟩::(H1++H2)) b'↔AN F.X ρ (H1++e::H2) b':=by
  intro b';unfold AN;refine or_congr Iff.rfl ⟨?_,?_⟩
  ·rintro⟨e',he',h⟩
   rcases A8.1 he' with rfl|he'
   ·rw[Ev]at h;exact⟨e,by simp,by rw[hb];exact h⟩
   ·have hm:=(hmem e').2 (.inr he')
    exact⟨e',hm,(hold e' hm b').1 h⟩
  ·rintro⟨e',he',h⟩
   rcases(hmem e').1 he' with rfl|h2
   ·rw[hb]at h;cases h
    exact⟨_,B3 ..,Ev _ _ _ _⟩
   ·exact⟨e',CA _ h2,(hold e' he' b').2 h⟩
 have hOe:AN F.X (ρ.put k n b) (⟨k,n,e.T,e.sz,e.es⟩::(H1++H2))=AN F.X ρ (H1++e::H2):=funext λb=>propext (hO b)
 have x:BZ ρ (AN F.X ρ (H1++e::H2)) w (ρ.put k n b) (AN F.X (ρ.put k n b) (⟨k,n,e.T,e.sz,e.es⟩::(H1++H2))) w:=
  ⟨An _,λ_ _ _ h=>OU hn h,λb' _ h=>⟨by rw[hOe];exact h,rfl⟩,λ_ cs _ _ h=>⟨cs,_,h,rfl⟩⟩
 have hinj:=m.hok.inj;rw[Jt,DR]at hinj;obtain⟨p1,⟨p2,p3⟩,p4⟩:=hinj;refine⟨⟨⟨λe' he'=>?_,?_,λe' he' b' hb'=>?_⟩,m.os,m.tape,m.output,m.size,m.blk,m.xlt,m.g0,m.gn,m.gw,λ_ _ _ h=>x.link _ _ _ (m.lnk _ _ _ h),m.shp⟩,x⟩
 ·rcases A8.1 he' with rfl|h2
  ·obtain⟨cs,a1,a2⟩:=m.at (e:=e) (by simp) hb
   have z:=a2.mono x;exact .inr ⟨b,cs,Ev _ _ _ _,a1,z.len,z.siz,z.one,z.rep⟩
  ·have hm:=(hmem e').2 (.inr h2)
   rcases m.hok.ent e' hm with⟨a1,a2⟩|⟨b',cs,a1,a2,a3⟩
   ·exact .inl ⟨a1,by unfold Lk.put;rw[AG λh=>hne e' hm h.2];exact a2⟩
   ·exact .inr ⟨b',cs,(hold e' hm b').2 a1,a2,a3.mono x⟩
 ·rw[DR,Jt]
  have tr:∀ {e1 e2:At},e1∈H1++e::H2->e2∈H1++e::H2->(∀b b',ρ e1.k e1.g=some b->ρ e2.k e2.g=some b'->b≠b')->∀b1 b2,ρ.put k n b e1.k e1.g=some b1->ρ.put k n b e2.k e2.g=some b2->b1≠b2:=
   λh1 h2 h b1 b2 hb1 hb2=>h b1 b2 ((hold _ h1 b1).1 hb1) ((hold _ h2 b2).1 hb2)
  refine⟨λe2 he2 b1 b2 hb1 hb2=>?_,?_,?_,?_⟩
  ·rw[Ev]at hb1;cases hb1
   have hm:=(hmem e2).2 (.inr he2);have hb2:=(hold _ hm b2).1 hb2;rcases Bl.1 he2 with h|h
   ·exact λhe=>p4 e2 h e (by simp) b2 b hb2 hb he.symm
   ·exact p2 e2 h b b2 hb hb2
  ·exact p1.imp_of_mem λh1 h2 h=>tr (by simp[h1]) (by simp[h2]) h
  ·exact p3.imp_of_mem λh1 h2 h=>tr (by simp[h1]) (by simp[h2]) h
  ·exact λe1 h1 e2 h2=>tr (by simp[h1]) (by simp[h2]) (p4 e1 h1 e2 (by simp[h2]))
 ·rcases A8.1 he' with rfl|h2
  ·rw[Ev]at hb';cases hb'
   exact m.hok.own e (by simp) b hb
  ·have hm:=(hmem e').2 (.inr h2)
   exact m.hok.own e' hm b' ((hold _ hm b').1 hb')
theorem Al.ghost {k n T sz:Nat}(m:Al C F ρ H w)(hn:ρ k n=none):Al C F ρ (⟨k,n,T,sz,[]⟩::H) w/\AN F.X ρ (⟨k,n,T,sz,[]⟩::H)=AN F.X ρ H:=by
 have hO:AN F.X ρ (⟨k,n,T,sz,[]⟩::H)=AN F.X ρ H:=funext λb=>propext (by
  unfold AN;refine or_congr Iff.rfl ⟨?_,λ⟨e,he,h⟩=>⟨e,CA _ he,h⟩⟩;rintro⟨e,he,h⟩;rcases A8.1 he with rfl|he
  ·rw[hn]at h;cases h
  ·exact⟨e,he,h⟩)
 refine⟨⟨⟨λe he=>?_,?_,λe he b hb=>?_⟩,m.os,m.tape,m.output,m.size,m.blk,m.xlt,m.g0,m.gn,m.gw,m.lnk,m.shp⟩,hO⟩
 ·rw[hO]
  rcases A8.1 he with rfl|he
  ·exact .inl ⟨rfl,hn⟩
  ·exact m.hok.ent e he
 ·refine DR.2 ⟨λe he b b' hb _=>?_,m.hok.inj⟩
  rw[hn]at hb;cases hb
 ·rcases A8.1 he with rfl|he
  ·rw[hn]at hb;cases hb
  ·exact m.hok.own e he b hb
def Ii (H:Hp)(esz:Nat):D->Option (List D×Prop)
 | .sl _ sz es=>some (es,sz=esz)
 | .osl k g sz i len=>match Hp.get H k with
  |some e=>some ((e.es.drop i).take len,g=e.g/\sz=e.sz/\sz=esz/\i+len<=e.es.length)
  |none=>none
 | .prim (.slice none 0 0)=>some ([],True)
 |_=>none
structure Oo (ρ:Lk)(O:Nat->Prop)(w:World)(esz:Nat)(es:List D)(a:Addr)(f:Nat->Value):Prop where
 cell:∀j,j<es.length*esz->w.cell? (a.add j)=some (f j)
 one:∀j,j<es.length*esz->one (f j)=true
 siz:∀(i:Nat) (e:D),es[i]?=some e->e.cells.length=esz
 rep:∀(i:Nat) (e:D) (j:Nat) (d:D),es[i]?=some e->e.cells[j]?=some d->AU ρ O w d (f (i*esz+j))
structure OJ (ρ:Lk)(O:Nat->Prop)(w:World)(esz:Nat)(es:List D)(f:Nat->Value):Prop where
 one:∀j,j<es.length*esz->one (f j)=true
 siz:∀(i:Nat) (e:D),es[i]?=some e->e.cells.length=esz
 rep:∀(i:Nat) (e:D) (j:Nat) (d:D),es[i]?=some e->e.cells[j]?=some d->AU ρ O w d (f (i*esz+j))
theorem Oo.srcv {ρ:Lk}{O:Nat->Prop}{w:World}{esz:Nat}{es:List D}{a:Addr}{f:Nat->Value}(h:Oo ρ O w esz es a f):OJ ρ O w esz es f:=⟨h.one,h.siz,h.rep⟩
theorem gC {esz:Nat}{d:D}{v:Value}{es:List D}{p:Prop}(m:Al C F ρ H w)(h:Ii H esz d=some (es,p))(hp:p)(hr:AU ρ (AN F.X ρ H) w d v):
  (v=.slice none 0 0/\es=[])\/∃a c f,v=.slice (some a) es.length c/\es.length<=c/\Oo ρ (AN F.X ρ H) w esz es a f:=by
 unfold Ii at h;split at h<;>try(cases h;done)
 ·cases h
  cases hr with
  |nil=>exact .inl ⟨rfl,rfl⟩
  |emp a=>exact .inr ⟨a,0,λ_=>undef,rfl,by simp,λj hj=>by simp at hj,λj hj=>by simp at hj,λi e h=>by simp at h,λi e j d h=>by simp at h⟩
  |sl f hl hc hO hb hz hcell ho hh=>
   subst hp;refine .inr ⟨_,_,f,by rw[hl],by omega,λj hj=>?_,λj hj=>ho j (by rw[<-hl];exact hj),hz,hh⟩;rw[IW];exact hcell j (by rw[<-hl];exact hj)
 ·rename_i k g sz i len
  split at h<;>try(cases h;done)
  rename_i e he;cases h;obtain⟨rfl,rfl,rfl,hle⟩:=hp;obtain⟨hm,hk⟩:=Hp.get_mem he;cases hr with
  |onil=>exact .inl ⟨rfl,by simp⟩
  |osl hr hb hc hs hmx=>
   rename_i cap b T cs fz;rw[<-hk]at hr;obtain⟨cs',h1,h2⟩:=m.at hm hr;rw[hb]at h1;cases h1;have hlen:((e.es.drop i).take len).length=len:=by simp;omega
   have hin:∀j,j<len*e.sz->i*e.sz+j<cs.size:=λj hj=>by
    have:(i+len)*e.sz<=e.es.length*e.sz:=CS _ hle
    rw[B0]at this;have:=h2.len;omega
   have hget:∀(q:Nat) (d:D),((e.es.drop i).take len)[q]?=some d->e.es[i+q]?=some d:=λq d hq=>by
    rw[FW]at hq;split at hq
    ·rwa [IC]at hq
    ·cases hq
   refine .inr ⟨_,cap,λj=>cs.getD (i*e.sz+j) undef,by rw[hlen],by omega,λj hj=>?_,λj hj=>?_,λq d hq=>h2.siz _ d (hget q d hq),λq d j c hq hc=>?_⟩
   ·rw[hlen]at hj
    have:=hin j hj
    rw[IW];simp[World.cell?,hb,this]
   ·rw[hlen]at hj
    have h':=hin j hj
    have:=h2.one (i*e.sz+j) (cs[i*e.sz+j]) (B9 h')
    simpa[Aw,B9 h']using this
   ·have:=h2.rep (i+q) d j c (hget q d hq) hc
    rw[B0,Ew]at this;exact this
 ·cases h
  cases hr;exact .inl ⟨rfl,rfl⟩
def Eb (tt:Nat->Option A7)(H:Hp)(n k:Nat)(g:Operand->D):Op->Option (D×Hp×Prop)
 | .call ⟨.builtin .append,args,tys⟩=>match args.toList with
  | [s,x]=>match tys.toList with
   | [t,t']=>match Nat.beq t t' with
    |true=>match tt t with
     |some i=>match i.ti with
      | .slice e esz eby _=>match Ii H esz (g x)with
       |some (news,p)=>match g s with
        | .osl k1 g1 sz 0 len=>match Hp.get H k1 with
         |some e1=>some (.osl k n esz 0 (len+news.length),⟨k,n,e,esz,e1.es.take len++news⟩::Hp.del H k1,
           p/\g1=e1.g/\sz=e1.sz/\sz=esz/\e1.T=e/\len<=e1.es.length/\(len+news.length)*eby<=140737488355328/\1<=eby/\1<=esz)
         |none=>none
        | .prim (.slice none 0 0)=>some (.osl k n esz 0 news.length,⟨k,n,e,esz,news⟩::H,p/\news.length*eby<=140737488355328/\1<=eby/\1<=esz)
        |_=>none
       |none=>none
      |_=>none
     |none=>none
    |false=>none
   |_=>none
  |_=>none
 |_=>none
theorem Tl {P:Program}{t e:Nat}{ty:Nat}{i:TypeInfo}(ht:P.underlying t=some (.slice e))(hi:P.info? e=some i){ao:Option Addr}{len cap:Nat}(hlc:len<=cap):
  (Builtin.append_ #[t,t] ty #[.slice ao len cap,.slice none 0 0]).run P w=.ok (.slice ao len cap) w:=by
 cases ao<;>simp[Builtin.append_,C4 ht,sizeOf,typeInfo,hi,Builtin.lenOf,hlc,run_firstCells_none,storeCells]
theorem dB {O:Nat->Prop}{e:At}{k g T len:Nat}{news:List D}{f:Nat->Value}{cs cs':Array Value}(h:De ρ O w e cs)(hl:len<=e.es.length)(hs:OJ ρ O w e.sz news f)
  (hlow:∀q,q<len*e.sz->cs'.getD q undef=cs.getD q undef) (hmid:∀j,j<news.length*e.sz->cs'.getD (len*e.sz+j) undef=f j) (hsize:(len+news.length)*e.sz<=cs'.size)
  (hone:∀(q:Nat) (v:Value),cs'[q]?=some v->one v=true):De ρ O w ⟨k,g,T,e.sz,e.es.take len++news⟩ cs':=by
 have hlen:(e.es.take len).length=len:=by simp;omega
 have hget:∀(i:Nat) (d:D),(e.es.take len++news)[i]?=some d->(i<len/\e.es[i]?=some d)\/(len<=i/\news[i-len]?=some d):=λi d hd=>by
  rcases BG i len with hi|hi
  ·rw[HI (by omega),FW,AH hi]at hd;exact .inl ⟨hi,hd⟩
  ·rw[Fq (by omega),hlen]at hd;exact .inr ⟨hi,hd⟩
 refine⟨by dsimp only;rw[Be,hlen];exact hsize,λi d hd=>?_,hone,λi d j c hd hc=>?_⟩
 ·rcases hget i d hd with⟨_,h1⟩|⟨_,h1⟩
  ·exact h.siz i d h1
  ·exact hs.siz _ d h1
 ·dsimp only at hd⊢
  rcases hget i d hd with⟨hi,h1⟩|⟨hi,h1⟩
  ·have hj:j<e.sz:=by rw[<-h.siz i d h1];exact(BT.1 hc).1
   rw[hlow]
   ·exact h.rep i d j c h1 hc
   ·have:(i+1)*e.sz<=len*e.sz:=CS _ hi
    rw[B0]at this;omega
  ·have hj:j<e.sz:=by rw[<-hs.siz _ d h1];exact(BT.1 hc).1
   have hil:i-len<news.length:=(BT.1 h1).1;have e1:i*e.sz+j=len*e.sz+((i-len)*e.sz+j):=by
    have:i=len+(i-len):=by omega
    conv=>lhs;rw[this,B0]
    omega
   rw[e1,hmid]
   ·exact hs.rep _ d j c h1 hc
   ·have:(i-len+1)*e.sz<=news.length*e.sz:=CS _ hil
    rw[B0]at this;omega
structure Mx (P:Program)(t e esz eby:Nat)(ez:Value):Prop where
 under:P.underlying t=some (.slice e)
 inf:∃i:TypeInfo,P.info? e=some i/\i.size=esz/\i.bytes=eby/\i.zero=some ez
 zs:ez.cells.size=esz
 zo:∀(j:Nat) (x:Value),ez.cells[j]?=some x->one x=true
theorem Qr {z:Array Value}(hz:∀(j:Nat) (x:Value),z[j]?=some x->one x=true)(n:Nat):∀(q:Nat) (v:Value),(Builtin.zeroCells z n)[q]?=some v->one v=true:=λq v hv=>by
 unfold Builtin.zeroCells at hv;rw[Array.getElem?_map]at hv;cases hr:(Array.range (n*z.size))[q]? with
 |none=>rw[hr]at hv;cases hv
 |some i=>
  rw[hr]at hv;simp only[Jy,BP]at hv;have hi:i<n*z.size:=by
   obtain⟨h1,h2⟩:=DA.1 hr;simp at h2 h1;omega
  have hpos:0<z.size:=by
   rcases EL z.size with h|h
   ·rw[h]at hi;simp at hi
   ·exact h
  have hlt:=CH i hpos;rw[<-hv,getElem!_pos z (i%z.size) hlt];exact hz (i%z.size) _ (B9 hlt)
theorem lZ {P:Program}{t e esz eby ty:Nat}{ez:Value}(T:Mx P t e esz eby ez){b len cap c:Nat}{cs:Array Value}(hb:w.heap[b]?=some (.cells cs e (0,0)))(hlc:len*esz<=cs.size){news:List D}{a:Addr}{f:Nat->Value}{O:Nat->Prop}
  (hs:Oo ρ O w esz news a f) (hg:cap<len+news.length) (hby:(len+news.length)*eby<=140737488355328) (h1:1<=eby):
  (Builtin.append_ #[t,t] ty #[.slice (some ⟨b,0,none⟩) len cap,.slice (some a) news.length c]).run P w =
   .ok (.slice (some ⟨w.heap.size,0,none⟩) (len+news.length) (grownCap w (len+news.length) cap e))
    (w.drew.alloc (.cells ((cs.toList.take (len*esz)).toArray++((List.range (news.length*esz)).map f).toArray++Builtin.zeroCells ez.cells (grownCap w (len+news.length) cap e-(len+news.length))) e)):=by
 obtain⟨i,i1,rfl,rfl,i4⟩:=T.inf;have hmx:len+news.length<=140737488355328:=BU (by have:=Cr (len+news.length) h1;omega) hby;exact run_append_grow (P:=P) w t ty e i ez T.under i1 i4 ⟨b,0,none⟩ len cap (cs.toList.take (len*i.size)) (by simp;omega) (λj v hv=>by
   rw[FW]at hv;split at hv
   ·rw[IW]
    simp only[Js]at hv;simp[World.cell?,hb,hv]
   ·cases hv) a news.length c ((List.range (news.length*i.size)).map f) (by simp) (λj v hv=>by
   rw[BC]at hv
   by_cases hj:j<news.length*i.size
   ·rw[Jv hj]at hv;cases hv;exact hs.cell j hj
   ·rw[EE (by simp;omega)]at hv;cases hv) hg (by omega) (growslice_fits hg hby)
structure Sx (P:Program)(w:World)(t u ty e esz eby:Nat)(ez sv:Value)(n:Nat)(f:Nat->Value):Prop where
 room:∀(b len cap:Nat) (cs:Array Value),w.heap[b]?=some (.cells cs e (0,0))->len+n<=cap->len*esz+n*esz<=cs.size ->
  (Builtin.append_ #[t,u] ty #[.slice (some ⟨b,0,none⟩) len cap,sv]).run P w=.ok (.slice (some ⟨b,0,none⟩) (len+n) cap) (w.setRow b (cs.toList.take (len*esz)++(List.range (n*esz)).map f++cs.toList.drop (len*esz+((List.range (n*esz)).map f).length)).toArray)
 grow:∀(b len cap:Nat) (cs:Array Value),w.heap[b]?=some (.cells cs e (0,0))->len*esz<=cs.size->cap<len+n->(len+n)*eby<=140737488355328 ->
  (Builtin.append_ #[t,u] ty #[.slice (some ⟨b,0,none⟩) len cap,sv]).run P w=.ok (.slice (some ⟨w.heap.size,0,none⟩) (len+n) (grownCap w (len+n) cap e))
   (w.drew.alloc (.cells ((cs.toList.take (len*esz)).toArray++((List.range (n*esz)).map f).toArray++Builtin.zeroCells ez.cells (grownCap w (len+n) cap e-(len+n))) e))
 none_:0<n->n*eby<=140737488355328->(Builtin.append_ #[t,u] ty #[.slice none 0 0,sv]).run P w=.ok (.slice (some ⟨w.heap.size,0,none⟩) n (grownCap w n 0 e))
   (w.drew.alloc (.cells (((List.range (n*esz)).map f).toArray++Builtin.zeroCells ez.cells (grownCap w n 0 e-n)) e))
 zero_:n=0->(Builtin.append_ #[t,u] ty #[.slice none 0 0,sv]).run P w=.ok (.slice none 0 0) w
theorem QT {O:Nat->Prop}{k g sz len cap b T:Nat}{cs:Array Value}{fz:Nat×Nat}(hr:ρ k g=some b)(hb:w.heap[b]?=some (.cells cs T fz))(hc:len<=cap)(hs:cap*sz=cs.size)(hm:cap<=maxLen):
  AU ρ O w (.osl k g sz 0 len) (.slice (some ⟨b,0,none⟩) len cap):=by
 have:=AU.osl (O:=O) (ρ:=ρ) (k:=k) (g:=g) (i:=0) (sz:=sz) (len:=len) hr hb hc (by rw[BW];exact hs) (by rw[BW];exact hm)
 rwa [Hi]at this
structure LW (C:BA)(F:AY)(H:Hp)(ρ:Lk)(w:World)(n:Nat)(d:D)(H':Hp)(v:Value)(ρ':Lk)(w':World):Prop where
 mem:Al C F ρ' H' w'
 ext:BZ ρ (AN F.X ρ H) w ρ' (AN F.X ρ' H') w'
 far:∀k g',g'≠n->ρ' k g'=ρ k g'
 rep:AU ρ' (AN F.X ρ' H') w' d v
theorem Qp {xs ys:Array Value}{q:Nat}(h:q<xs.size):(xs++ys).getD q undef=xs.getD q undef:=by
 simp only[Aw];rw[HH h]
theorem kj {xs ys:Array Value}{q:Nat}(h:xs.size<=q):(xs++ys).getD q undef=ys.getD (q-xs.size) undef:=by
 simp only[Aw];rw[HG h]
theorem Xh {t e0 esz eby ty n k:Nat}{ez:Value}(T:Mx C.P t e0 esz eby ez){H1 H2:Hp}{e:At}{b len cap:Nat}(m:Al C F ρ (H1++e::H2) w)(hr:ρ e.k e.g=some b)(hT:e.T=e0)(hsz:esz=e.sz)(hle:len<=e.es.length)
  {cs:Array Value} (hbk:w.heap[b]?=some (.cells cs e.T (0,0))) (hcs:cap*esz=cs.size) (hcap:cap<=maxLen) (fr:∀k,ρ k n=none) (hlt:∀e'∈H1++e::H2,e'.g≠n) {news:List D} {f:Nat->Value} {u:Nat} {sv:Value}
  (S:Sx C.P w t u ty e0 esz eby ez sv news.length f) (hs:OJ ρ (AN F.X ρ (H1++e::H2)) w esz news f) (hby:(len+news.length)*eby<=140737488355328) (h1:1<=eby):
  ∃v ρ' w',(Builtin.append_ #[t,u] ty #[.slice (some ⟨b,0,none⟩) len cap,sv]).run C.P w=.ok v w' /\
   LW C F (H1++e::H2) ρ w n (.osl k n esz 0 (len+news.length)) (⟨k,n,e0,esz,e.es.take len++news⟩::(H1++H2)) v ρ' w':=by
 subst hT hsz;obtain⟨cs0,q1,q2⟩:=m.at (e:=e) (by simp) hr;rw[hbk]at q1;cases q1;have hlc:len*e.sz<=cs.size:=BU (CS _ hle) q2.len;have hmx:len+news.length<=maxLen:=by
  have:=Cr (len+news.length) h1
  simp only[maxLen];omega
 have hlim:∀q,q<len*e.sz->q<cs.size:=λq hq=>by omega
 by_cases hroom:len+news.length<=cap
 ·have hfit:len*e.sz+news.length*e.sz<=cs.size:=by rw[<-hcs,<-B0];exact CS _ hroom
  have run:=S.room b len cap cs hbk hroom hfit;generalize hcs':(cs.toList.take (len*e.sz)++(List.range (news.length*e.sz)).map f++cs.toList.drop (len*e.sz+((List.range (news.length*e.sz)).map f).length)).toArray=cs' at run;have hsz':cs'.size=cs.size:=by rw[<-hcs'];simp;omega
  have get:∀q,cs'[q]?=if q<len*e.sz then cs[q]? else if q<len*e.sz+news.length*e.sz then some (f (q-len*e.sz))else cs[q]?:=λq=>by
   rw[<-hcs'];simp only[Ku];rw[Dh];have hl1:(cs.toList.take (len*e.sz)).length=len*e.sz:=by simp;omega
   rcases BG q (len*e.sz)with hq|hq
   ·rw[HI (by omega),AH hq,FW,AH hq];simp
   ·rw[Fq (by omega),CI,hl1]
    rcases BG (q-len*e.sz) (news.length*e.sz)with hq2|hq2
    ·rw[HI (by simp;omega),DU,BC,Jv hq2];rfl
    ·rw[Fq (by simp;omega),CI,IC]
     simp only[Ai,List.length_range];rw[show len*e.sz+news.length*e.sz+(q-len*e.sz-news.length*e.sz)=q from by omega];simp
  have ho:De ρ (AN F.X ρ (H1++e::H2)) w ⟨e.k,e.g,e.T,e.sz,e.es.take len++news⟩ cs':=dB q2 hle hs
   (λq hq=>by rw[Aw,get,AH hq,<-Aw])
   (λj hj=>by rw[Aw,get,CI,DU,show len*e.sz+j-len*e.sz=j from by omega];rfl)
   (by rw[hsz',B0];exact hfit) (λq v hv=>by
    rw[get]at hv;split at hv
    ·exact q2.one _ _ hv
    ·split at hv
     ·cases hv;exact hs.one _ (by omega)
     ·exact q2.one _ _ hv)
  obtain⟨m1,x1⟩:=m.write (e':=⟨e.k,e.g,e.T,e.sz,e.es.take len++news⟩) hr hbk rfl rfl rfl hsz' ho;obtain⟨m2,x2⟩:=m1.rename (e:=⟨e.k,e.g,e.T,e.sz,e.es.take len++news⟩) (k:=k) (n:=n) hr (fr k) (λe' he'=>by
   rcases Bl.1 he' with h|h
   ·exact hlt e' (by simp[h])
   ·rcases A8.1 h with rfl|h
    ·exact hlt e (by simp)
    ·exact hlt e' (by simp[h]))
  rw[UN hbk]at run;refine⟨_,ρ.put k n b,_,run,?_⟩;refine⟨m2,x1.trans x2,λk' g' hg=>by unfold Lk.put;rw[AG λh=>hg h.2],?_⟩;have hlt:b<w.heap.size:=(DA.1 hbk).1;exact QT (b:=b) (T:=e.T) (cs:=cs') (fz:=(0,0)) (Ev _ _ _ _) (by rw[ML _ _ _ _ _ hlt,AH rfl]) hroom (by rw[hsz',<-hcs]) hcap
 ·have run:=S.grow b len cap cs hbk hlc (Nat.lt_of_not_le hroom) hby
  generalize hcap':grownCap w (len+news.length) cap e.T=cap' at run;have hge:len+news.length<=cap':=by rw[<-hcap'];exact grownCap_ge ..
  have hmx':cap'<=maxLen:=by rw[<-hcap'];exact grownCap_le_maxLen _ _ _ _ hmx
  generalize hcs':(cs.toList.take (len*e.sz)).toArray++((List.range (news.length*e.sz)).map f).toArray++Builtin.zeroCells ez.cells (cap'-(len+news.length))=cs' at run;have s1:(cs.toList.take (len*e.sz)).toArray.size=len*e.sz:=by simp;omega
  have s2:((List.range (news.length*e.sz)).map f).toArray.size=news.length*e.sz:=by simp
  have hsz':cs'.size=cap'*e.sz:=by
   rw[<-hcs',Jw,Jw,s1,s2,size_zeroCells,T.zs,<-B0,<-B0]
   congr 1;omega
  obtain⟨m0,hO0⟩:=m.sub (H':=H1++H2) (Qe (Qf _) (QZ _ _));have x0:BZ ρ (AN F.X ρ (H1++e::H2)) w ρ (AN F.X ρ (H1++H2)) w.drew:=
   ⟨An _,λ_ _ _ h=>h,λb' _ h=>⟨λh'=>h (hO0 b' h'),rfl⟩,λ_ cs _ _ h=>⟨cs,_,h,rfl⟩⟩
  have ho:De ρ (AN F.X ρ (H1++H2)) w.drew ⟨k,n,e.T,e.sz,e.es.take len++news⟩ cs':=by
   have hlow:∀q,q<len*e.sz->cs'.getD q undef=cs.getD q undef:=λq hq=>by
    rw[<-hcs',Qp (by rw[Jw];omega),Qp (by omega)];simp only[Aw,Ku,FW,AH hq];simp
   have hmid:∀j,j<news.length*e.sz->cs'.getD (len*e.sz+j) undef=f j:=λj hj=>by
    rw[<-hcs',Qp (by rw[Jw];omega),kj (by omega),s1,show len*e.sz+j-len*e.sz=j from by omega];simp[Aw,hj]
   refine(dB q2 hle hs hlow hmid (by rw[hsz'];exact CS _ hge) λq v hv=>?_).mono x0;rw[<-hcs']at hv;rcases BG q (len*e.sz+news.length*e.sz)with hq|hq
   ·rw[HH (by rw[Jw];omega)]at hv
    rcases BG q (len*e.sz)with hq2|hq2
    ·rw[HH (by omega)]at hv
     simp only[Ku,FW,AH hq2]at hv;exact q2.one q v (by simpa using hv)
    ·rw[HG (by omega),s1]at hv
     simp only[Ku,BC]at hv;rw[Jv (by omega)]at hv;cases hv;exact hs.one _ (by omega)
   ·rw[HG (by rw[Jw];omega)]at hv
    exact Qr T.zo _ _ v hv
  obtain⟨m1,x1⟩:=m0.drew.alloc ⟨k,n,e.T,e.sz,e.es.take len++news⟩ cs' (fr k) (λe' he' h=>hlt e' (by rcases Bl.1 he' with h|h<;>simp[h]) h.2) ho;refine⟨_,_,_,run,m1,x0.trans x1,λk' g' hg=>by unfold Lk.put;rw[AG λh=>hg h.2],?_⟩;exact QT (b:=w.heap.size) (T:=e.T) (cs:=cs') (fz:=(0,0)) (Ev _ _ _ _) (by rw[En];exact AH rfl) hge hsz'.symm hmx'
theorem T4 {t e0 esz eby ty:Nat}{P:Program}{O:Nat->Prop}{ez:Value}(T:Mx P t e0 esz eby ez)(h1:1<=eby){news:List D}{a:Addr}{c:Nat}{f:Nat->Value}(hs:Oo ρ O w esz news a f):
  Sx P w t t ty e0 esz eby ez (.slice (some a) news.length c) news.length f where
 room b len cap cs hbk hroom hfit:=by
  obtain⟨i,i1,rfl,i3,i4⟩:=T.inf;exact run_append_room (P:=P) w t ty e0 i T.under i1 b len cap cs hbk a news.length c ((List.range (news.length*i.size)).map f) (by simp) (λj v hv=>by
   rw[BC]at hv
   by_cases hj:j<news.length*i.size
   ·rw[Jv hj]at hv;cases hv;exact hs.cell j hj
   ·rw[EE (by simp;omega)]at hv;cases hv) (λu hu=>by
    rw[g9];obtain⟨j,hj,rfl⟩:=Bx.1 hu;exact hs.one j (by simpa using hj)) hroom (by simp;exact hfit)
 grow b len cap cs hb hlc hg hby:=lZ (P:=P) (ty:=ty) (c:=c) T hb hlc hs hg hby h1
 none_ h0 hby:=by
  obtain⟨i,i1,rfl,rfl,i4⟩:=T.inf;have hmx:news.length<=maxLen:=by
   have:=Cr news.length h1
   simp only[maxLen];omega
  exact run_append_nil (P:=P) w t ty e0 i ez T.under i1 i4 a news.length c ((List.range (news.length*i.size)).map f) (by simp) (λj v hv=>by
   rw[BC]at hv
   by_cases hj:j<news.length*i.size
   ·rw[Jv hj]at hv;cases hv;exact hs.cell j hj
   ·rw[EE (by simp;omega)]at hv;cases hv) h0 (by simp only[maxLen]at hmx;omega) (by omega)
 zero_ h0:=by
  obtain⟨i,i1,rfl,rfl,i4⟩:=T.inf;simp[Builtin.append_,C4 T.under,sizeOf,typeInfo,i1,Builtin.lenOf,Builtin.firstCells,loadCells,loadCellsFrom,h0]
theorem append_nil {t e0 esz eby ty n k:Nat}{ez:Value}(T:Mx C.P t e0 esz eby ez)(m:Al C F ρ H w)(fr:∀k,ρ k n=none)(hlt:∀e'∈H,e'.g≠n){news:List D}{f:Nat->Value}{u:Nat}{sv:Value}
  (S:Sx C.P w t u ty e0 esz eby ez sv news.length f) (hs:OJ ρ (AN F.X ρ H) w esz news f) (hby:news.length*eby<=140737488355328) (h1:1<=eby):
  ∃v ρ' w',(Builtin.append_ #[t,u] ty #[.slice none 0 0,sv]).run C.P w=.ok v w' /\
   LW C F H ρ w n (.osl k n esz 0 news.length) (⟨k,n,e0,esz,news⟩::H) v ρ' w':=by
 rcases EL news.length with h0|h0
 ·have hn:=FT h0
  subst hn;obtain⟨m1,hO⟩:=m.ghost (k:=k) (n:=n) (T:=e0) (sz:=esz) (fr k);exact⟨.slice none 0 0,ρ,w,S.zero_ rfl,m1,by rw[hO];exact .refl _ _ _,λ_ _ _=>rfl,.onil _ _ _⟩
 ·have hmx:news.length<=maxLen:=by
   have:=Cr news.length h1
   simp only[maxLen];omega
  have run:=S.none_ h0 hby;generalize hcap':grownCap w news.length 0 e0=cap' at run;have hge:news.length<=cap':=by rw[<-hcap'];exact grownCap_ge ..
  have hmx':cap'<=maxLen:=by rw[<-hcap'];exact grownCap_le_maxLen _ _ _ _ hmx
  generalize hcs':((List.range (news.length*esz)).map f).toArray++Builtin.zeroCells ez.cells (cap'-news.length)=cs' at run;have s2:((List.range (news.length*esz)).map f).toArray.size=news.length*esz:=by simp
  have hsz':cs'.size=cap'*esz:=by
   rw[<-hcs',Jw,s2,size_zeroCells,T.zs,<-B0]
   congr 1;omega
  have hmid:∀j,j<news.length*esz->cs'.getD j undef=f j:=λj hj=>by
   rw[<-hcs',Qp (by omega)];simp[Aw,hj]
  have ho:De ρ (AN F.X ρ H) w.drew ⟨k,n,e0,esz,news⟩ cs':=by
   refine De.mono ⟨?_,hs.siz,λq v hv=>?_,λq d j c hd hc=>?_⟩ (BZ.drew ρ (AN F.X ρ H) w)
   ·dsimp only;rw[hsz'];exact CS _ hge
   ·rw[<-hcs']at hv
    rcases BG q (news.length*esz)with hq|hq
    ·rw[HH (by omega)]at hv
     simp only[Ku,BC]at hv;rw[Jv hq]at hv;cases hv;exact hs.one _ hq
    ·rw[HG (by omega)]at hv
     exact Qr T.zo _ _ v hv
   ·dsimp only at hd⊢
    have hj:j<esz:=by rw[<-hs.siz q d hd];exact(BT.1 hc).1
    have hq:q<news.length:=(BT.1 hd).1;rw[hmid]
    ·exact hs.rep q d j c hd hc
    ·have:(q+1)*esz<=news.length*esz:=CS _ hq
     rw[B0]at this;omega
  obtain⟨m1,x1⟩:=m.drew.alloc ⟨k,n,e0,esz,news⟩ cs' (fr k) (λe' he' h=>hlt e' he' h.2) ho;refine⟨_,_,_,run,m1,(BZ.drew _ _ _).trans x1,λk' g' hg=>by unfold Lk.put;rw[AG λh=>hg h.2],?_⟩;exact QT (b:=w.heap.size) (T:=e0) (cs:=cs') (fz:=(0,0)) (Ev _ _ _ _) (by rw[En];exact AH rfl) hge hsz'.symm hmx'
theorem Q7 {tt:Nat->Option A7}{o:Oper}{g:Operand->D}{ev:Operand->Value}{n k:Nat}{d:D}{H':Hp}{p:Prop}(htt:C3 C.P tt)(m:Al C F ρ H w)(fr:∀k,ρ k n=none)(hlt:∀e∈H,e.g≠n)
  (hg:∀x,AU ρ (AN F.X ρ H) w (g x) (ev x)) (h:Eb tt H n k g o.op=some (d,H',p)) (hp:p):
  ∃v ρ' w',(execOp ev o).run C.P w=.ok (.value v) w'/\LW C F H ρ w n d H' v ρ' w':=by
 unfold Eb at h;split at h<;>try(cases h;done)
 rename_i args tys ho;split at h<;>try(cases h;done)
 rename_i s x hargs;split at h<;>try(cases h;done)
 rename_i t t' htys;split at h<;>try(cases h;done)
 rename_i htt';obtain rfl:=CG htt';split at h<;>try(cases h;done)
 rename_i i hi;split at h<;>try(cases h;done)
 rename_i e esz eby ez hk;split at h<;>try(cases h;done)
 rename_i news q hsrc;obtain⟨k1,⟨inf,k2,k3,k4,k5⟩,k6,k7⟩:=FL (htt _ _ hi) hk;have T:Mx C.P t e esz eby ez:=⟨k1,⟨inf,k2,k3,k4,k5⟩,k6,k7⟩
 have hargs':args = #[s,x]:=by rw[<-TY (xs:=args),hargs]
 have htys':tys = #[t,t]:=by rw[<-TY (xs:=tys),htys]
 subst hargs' htys';have fin:∀v1 v2,ev s=v1->ev x=v2->(∃v ρ' w',(Builtin.append_ #[t,t] o.type #[v1,v2]).run C.P w=.ok v w'/\LW C F H ρ w n d H' v ρ' w') ->
   ∃v ρ' w',(execOp ev o).run C.P w=.ok (.value v) w'/\LW C F H ρ w n d H' v ρ' w':=by
  rintro v1 v2 h1 h2 ⟨v,ρ',w',h3,h4⟩;refine⟨v,ρ',w',?_,h4⟩;unfold execOp;simp only[ho,resolve,invoke,builtin,Sem.run_bind,Sem.run_pure,Result.andThen_ok,List.map_toArray,Ci,List.map_nil,h1,h2,h3]
 have hx:=hg x;have hsr:=hg s;generalize hvx:ev x=vx at hx;generalize hvs:ev s=vs at hsr;refine fin vs vx hvs hvx ?_;split at h<;>try(cases h;done)
 ·rename_i k0 g1 sz len hgs
  split at h<;>try(cases h;done)
  rename_i e1 he1;simp only[BP,Bq]at h;obtain⟨rfl,rfl,rfl⟩:=h;obtain⟨hq,rfl,rfl,rfl,rfl,hle,hby,hb1,hs1⟩:=hp;obtain⟨hm,hke⟩:=Hp.get_mem he1;obtain⟨H1,H2,a1,_,a3⟩:=M9 e1 he1;rw[hgs]at hsr;rw[a3];rcases gC m hsrc hq hx with⟨rfl,rfl⟩|⟨a,c,f,rfl,hc,hs⟩
  ·
   simp only[IH,D9,Du];cases hsr with
   |onil=>
    obtain⟨m0,hO0⟩:=m.sub (H':=H1++H2) (by rw[a1];exact Qe (Qf _) (QZ _ _));obtain⟨m1,hO⟩:=m0.ghost (k:=k) (n:=n) (T:=e1.T) (sz:=e1.sz) (fr k);refine⟨_,ρ,w,Tl k1 k2 (An _),by simpa using m1,?_,λ_ _ _=>rfl,.onil _ _ _⟩;simp only[Lx];rw[hO];exact⟨An _,λ_ _ _ h=>h,λb' _ h=>⟨λh'=>h (hO0 b' h'),rfl⟩,λ_ cs _ _ h=>⟨cs,_,h,rfl⟩⟩
   |osl hr hb hc hs hmx=>
    rename_i cap b T' cs fz;rw[<-hke]at hr;obtain⟨cs0,q1,q2⟩:=m.at hm hr;rw[hb]at q1;cases q1;rw[a1]at m;have q3:De ρ (AN F.X ρ (H1++e1::H2)) w ⟨e1.k,e1.g,e1.T,e1.sz,e1.es.take len⟩ cs:=by
     rw[<-a1];refine⟨by dsimp only;simp only[Bc];exact BU (CS _ (Nat.min_le_right _ _)) q2.len,λi d hd=>?_,q2.one,λi d j c hd hc=>?_⟩
     ·dsimp only at hd;rw[FW]at hd;split at hd
      ·exact q2.siz i d hd
      ·cases hd
     ·dsimp only at hd⊢;rw[FW]at hd;split at hd
      ·exact q2.rep i d j c hd hc
      ·cases hd
    obtain⟨m1,x1⟩:=m.write (e':=⟨e1.k,e1.g,e1.T,e1.sz,e1.es.take len⟩) hr hb rfl rfl rfl rfl q3;have hsame:World.setBlk w b cs e1.T=w:=by
     unfold World.setBlk
     have:w.heap.setIfInBounds b (.cells cs e1.T (0,0))=w.heap:=by
      apply Array.ext_getElem?;intro q;rw[Io]
      by_cases hq:b=q
      ·subst hq;rw[AH rfl,AH (DA.1 hb).1,hb]
      ·rw[AG hq]
     rw[this]
    rw[hsame]at m1 x1;obtain⟨m2,x2⟩:=m1.rename (e:=⟨e1.k,e1.g,e1.T,e1.sz,e1.es.take len⟩) (k:=k) (n:=n) hr (fr k) (λe' he'=>by
     rcases Bl.1 he' with h|h
     ·exact hlt e' (by rw[a1];simp[h])
     ·rcases A8.1 h with rfl|h
      ·exact hlt e1 hm
      ·exact hlt e' (by rw[a1];simp[h]))
    refine⟨_,_,w,Tl k1 k2 hc,m2,by rw[a1];exact x1.trans x2,λk' g' hg=>by unfold Lk.put;rw[AG λh=>hg h.2],?_⟩;have fin:=AU.osl (ρ:=ρ.put k n b) (O:=AN F.X (ρ.put k n b) (⟨k,n,e1.T,e1.sz,e1.es.take len⟩::(H1++H2))) (k:=k) (g:=n) (i:=0) (Ev _ _ _ _) hb hc hs hmx;exact fin
  ·cases hsr with
   |onil=>
    obtain⟨m0,hO0⟩:=m.sub (H':=H1++H2) (by rw[a1];exact Qe (Qf _) (QZ _ _));have x0:BZ ρ (AN F.X ρ H) w ρ (AN F.X ρ (H1++H2)) w:=⟨An _,λ_ _ _ h=>h,λb' _ h=>⟨λh'=>h (hO0 b' h'),rfl⟩,λ_ cs _ _ h=>⟨cs,_,h,rfl⟩⟩
    have hs':OJ ρ (AN F.X ρ (H1++H2)) w e1.sz news f:=⟨hs.one,hs.siz,λi e j d h1 h2=>(hs.rep i e j d h1 h2).mono x0⟩
    obtain⟨v,ρ',w',r1,r2⟩:=append_nil (ty:=o.type) (k:=k) T m0 fr (λe' he'=>hlt e' (by rw[a1];rcases Bl.1 he' with h|h<;>simp[h])) (T4 (c:=c) T hb1 hs) hs' (by simpa using hby) hb1;refine⟨v,ρ',w',r1,?_⟩;simp only[BW,Lx,FE];exact⟨r2.mem,x0.trans r2.ext,r2.far,r2.rep⟩
   |osl hr hb hc' hcs hmx=>
    rename_i cap b T' cs fz;rw[<-hke]at hr;obtain⟨cs0,q1,q2⟩:=m.at hm hr;rw[hb]at q1;cases q1;rw[a1]at m hlt hs;obtain⟨v,ρ',w',r1,r2⟩:=Xh (ty:=o.type) (k:=k) T m hr rfl rfl hle hb (by simpa using hcs) (by simpa using hmx) fr hlt (T4 (c:=c) T hb1 hs) hs.srcv hby hb1;rw[a1];refine⟨v,ρ',w',?_,r2⟩;simpa using r1
 ·rename_i hgs
  simp only[BP,Bq]at h;obtain⟨rfl,rfl,rfl⟩:=h;obtain⟨hq,hby,hb1,hs1⟩:=hp;rw[hgs]at hsr;cases hsr;rcases gC m hsrc hq hx with⟨rfl,rfl⟩|⟨a,c,f,rfl,hc,hs⟩
  ·obtain⟨m1,hO⟩:=m.ghost (k:=k) (n:=n) (T:=e) (sz:=esz) (fr k)
   exact⟨_,ρ,w,Tl k1 k2 (An _),m1,by rw[hO];exact .refl _ _ _,λ_ _ _=>rfl,.onil _ _ _⟩
  ·exact append_nil (ty:=o.type) (k:=k) T m fr hlt (T4 (c:=c) T hb1 hs) hs.srcv hby hb1
end
section
variable {C:BA} {F:AY} {s:St} {ops:Array Oper} {o:Oper} {os:List Oper} {K:St->Prop}
theorem XO:∀ {H:Hp} {k:Nat} {e:At},e∈Hp.del H k->e∈H
 |e0::r,k,e,h=>by
  simp only[Hp.del]at h;split at h
  ·exact CA _ h
  ·rcases A8.1 h with rfl|h
   ·exact B3 ..
   ·exact CA _ (XO h)
theorem rQ {tt:Nat->Option A7}{H:Hp}{n k:Nat}{g:Operand->D}{op:Op}{d:D}{H':Hp}{p:Prop}(h:Eb tt H n k g op=some (d,H',p))(hl:∀e∈H,e.g<n):∀e∈H',e.g<n+1:=by
 unfold Eb at h
 (repeat' split at h)<;>try(cases h;done)
 ·cases h
  intro e he;rcases A8.1 he with rfl|he
  ·exact IF _
  ·exact Di (hl e (XO he))
 ·cases h
  intro e he;rcases A8.1 he with rfl|he
  ·exact IF _
  ·exact Di (hl e he)
theorem jy {tt:Nat->Option A7}(k:Nat)(htt:C3 C.P tt){d:D}{H':Hp}{p:Prop}(hw:CP ops s.env o=some true)(he:Eb tt s.H s.n k (BI s.env) o.op=some (d,H',p))(hp:p)
  (h:BL C F ops os ⟨Bi s.env o.dst d,H',s.n+1⟩ K):BL C F ops (o::os) s K:=
 BL.step hw (λρ a w hs=>by
  obtain⟨v,ρ',w',h1,h2⟩:=Q7 htt hs.mem (λk=>hs.fresh k _ (An _)) (λe he=>Nat.ne_of_lt (hs.gen e he)) (Dm hs.env) he hp;exact⟨v,ρ',w',.inl h1,⟨h2.mem,h2.ext,λk g hg=>by rw[h2.far k g (by omega)];exact hs.fresh k g (by omega),h2.rep⟩,rQ he hs.gen⟩) h
end
def I8 (s:ByteArray):List D:=s.data.toList.map λb=>.prim (.int .u8 (b.toNat:Int))
theorem J5 (s:ByteArray):(I8 s).length=s.size:=by
 unfold I8;rw[Ai,Im];rfl
def KL (s:ByteArray)(j:Nat):Value:=.int .u8 ((s.data.toList.getD j 0).toNat:Int)
theorem Tm (s:ByteArray):(List.range (s.size*1)).map (KL s)=Lib.strCells s:=by
 refine Qg λj=>?_
 have hs:s.data.toList.length=s.size:=by rw[Im];rfl
 rw[Ea,BC,Lib.strCells,BC];rcases BG j s.size with h|h
 ·rw[Jv h,Ct]
  simp[KL,EM,By (show j<s.data.toList.length by omega)]
 ·rw[EE (by simp;omega),EE (by omega)];rfl
section
variable {C:BA} {F:AY} {ρ:Lk} {H:Hp} {w:World}
theorem T6 {O:Nat->Prop}(s:ByteArray):OJ ρ O w 1 (I8 s) (KL s) where
 one _ _:=rfl
 siz i e h:=by
  unfold I8 at h;rw[BC]at h;obtain⟨b,_,rfl⟩:=E6.1 h;rfl
 rep i e j d h1 h2:=by
  unfold I8 at h1;rw[BC]at h1;obtain⟨b,hb,rfl⟩:=E6.1 h1;rcases j with _|j
  ·cases h2
   have:KL s (i*1+0)=.int .u8 (b.toNat:Int):=by
    unfold KL;rw[Ea,D9,EM,hb];rfl
   rw[this];exact .prim _
  ·simp[D.cells]at h2
theorem Xp {P:Program}{t u ty e0:Nat}(T:Mx P t e0 1 1 (.int .u8 0))(hu:P.underlying u=some .string)(s:ByteArray):
  Sx P w t u ty e0 1 1 (.int .u8 0) (.string s) s.size (KL s) where
 room b len cap cs hbk hroom hfit:=by
  obtain⟨i,i1,i2,i3,i4⟩:=T.inf;rw[Tm,Lib.strCells_length,Ea];exact Lib.run_append_room_string w t u ty e0 i T.under hu i1 i2 b len cap cs hbk s hroom (by omega)
 grow b len cap cs hb hlc hg hby:=by
  obtain⟨i,i1,i2,i3,i4⟩:=T.inf;rw[Tm];rw[Ea]at hlc⊢;exact Lib.run_append_grow_string w t u ty e0 i (.int .u8 0) T.under hu i1 i4 ⟨b,0,none⟩ len cap (cs.toList.take len) (by rw[i2];simp;omega) (λj v hv=>by
   rw[FW]at hv;split at hv
   ·rw[IW]
    simp only[Js]at hv;simp[World.cell?,hb,hv]
   ·cases hv) s hg (by omega) (by rw[i3];exact growslice_fits hg (by omega))
 none_ h0 hby:=by
  obtain⟨i,i1,i2,i3,i4⟩:=T.inf;have hr:=run_append_nil_string (P:=P) w t u ty e0 i (.int .u8 0) T.under hu i1 i4 s (by omega) (by omega) (by rw[i3];omega);have e1:(s.data.map λb=>Value.int .u8 b.toNat)=(Lib.strCells s).toArray:=by
   apply Array.ext';simp[Lib.strCells]
  rw[Tm,<-e1];exact hr
 zero_ h0:=by
  obtain⟨i,i1,i2,i3,i4⟩:=T.inf;have hf:=Lib.run_firstCells_string (P:=P) w 1 s;rw[h0]at hf;simp[Builtin.append_,C4 T.under,C4 hu,sizeOf,typeInfo,i1,i2,Builtin.lenOf,h0,hf]
def OM (tt:Nat->Option A7)(H:Hp)(n k:Nat)(g:Operand->D):Op->Option (D×Hp×Prop)
 | .call ⟨.builtin .append,args,tys⟩=>match args.toList with
  | [s,x]=>match tys.toList with
   | [t,t']=>match tt t' with
    |some i'=>match i'.ti with
     | .string=>match tt t with
      |some i=>match i.ti with
       | .slice e esz eby ez=>match g x with
        | .prim (.string str)=>match g s with
         | .osl k1 g1 sz 0 len=>match Hp.get H k1 with
          |some e1=>some (.osl k n 1 0 (len+str.size),⟨k,n,e,1,e1.es.take len++I8 str⟩::Hp.del H k1,
            esz=1/\eby=1/\ez=.int .u8 0/\g1=e1.g/\sz=e1.sz/\sz=1/\e1.T=e/\len<=e1.es.length/\len+str.size<=140737488355328)
          |none=>none
         | .prim (.slice none 0 0)=>some (.osl k n 1 0 str.size,⟨k,n,e,1,I8 str⟩::H,esz=1/\eby=1/\ez=.int .u8 0/\str.size<=140737488355328)
         |_=>none
        |_=>none
       |_=>none
      |none=>none
     |_=>none
    |none=>none
   |_=>none
  |_=>none
 |_=>none
theorem ly {tt:Nat->Option A7}{o:Oper}{g:Operand->D}{ev:Operand->Value}{n k:Nat}{d:D}{H':Hp}{p:Prop}(htt:C3 C.P tt)(m:Al C F ρ H w)(fr:∀k,ρ k n=none)(hlt:∀e∈H,e.g≠n)
  (hg:∀x,AU ρ (AN F.X ρ H) w (g x) (ev x)) (h:OM tt H n k g o.op=some (d,H',p)) (hp:p):
  ∃v ρ' w',(execOp ev o).run C.P w=.ok (.value v) w'/\LW C F H ρ w n d H' v ρ' w':=by
 unfold OM at h;split at h<;>try(cases h;done)
 rename_i args tys ho;split at h<;>try(cases h;done)
 rename_i s x hargs;split at h<;>try(cases h;done)
 rename_i t t' htys;split at h<;>try(cases h;done)
 rename_i i' hi';split at h<;>try(cases h;done)
 rename_i hk';split at h<;>try(cases h;done)
 rename_i i hi;split at h<;>try(cases h;done)
 rename_i e esz eby ez hk;split at h<;>try(cases h;done)
 rename_i str hgx;have hu:=MK (htt _ _ hi') hk';obtain⟨k1,⟨inf,k2,k3,k4,k5⟩,k6,k7⟩:=FL (htt _ _ hi) hk;have T0:Mx C.P t e esz eby ez:=⟨k1,⟨inf,k2,k3,k4,k5⟩,k6,k7⟩
 have hargs':args = #[s,x]:=by rw[<-TY (xs:=args),hargs]
 have htys':tys = #[t,t']:=by rw[<-TY (xs:=tys),htys]
 subst hargs' htys';have fin:∀v1 v2,ev s=v1->ev x=v2->(∃v ρ' w',(Builtin.append_ #[t,t'] o.type #[v1,v2]).run C.P w=.ok v w'/\LW C F H ρ w n d H' v ρ' w') ->
   ∃v ρ' w',(execOp ev o).run C.P w=.ok (.value v) w'/\LW C F H ρ w n d H' v ρ' w':=by
  rintro v1 v2 h1 h2 ⟨v,ρ',w',h3,h4⟩;refine⟨v,ρ',w',?_,h4⟩;unfold execOp;simp only[ho,resolve,invoke,builtin,Sem.run_bind,Sem.run_pure,Result.andThen_ok,List.map_toArray,Ci,List.map_nil,h1,h2,h3]
 have hx:=hg x;have hsr:=hg s;generalize hvx:ev x=vx at hx;generalize hvs:ev s=vs at hsr;refine fin vs vx hvs hvx ?_;rw[hgx]at hx;cases hx;split at h<;>try(cases h;done)
 ·rename_i k0 g1 sz len hgs
  split at h<;>try(cases h;done)
  rename_i e1 he1;simp only[BP,Bq]at h;obtain⟨rfl,rfl,rfl⟩:=h;obtain⟨rfl,rfl,rfl,rfl,q1,rfl,rfl,hle,hby⟩:=hp;have T:=T0;obtain⟨hm,hke⟩:=Hp.get_mem he1;obtain⟨H1,H2,a1,_,a3⟩:=M9 e1 he1;rw[hgs]at hsr;rw[a3];have S:=Xp (w:=w) (ty:=o.type) T hu str;cases hsr with
  |onil=>
   obtain⟨m0,hO0⟩:=m.sub (H':=H1++H2) (by rw[a1];exact Qe (Qf _) (QZ _ _));have x0:BZ ρ (AN F.X ρ H) w ρ (AN F.X ρ (H1++H2)) w:=⟨An _,λ_ _ _ h=>h,λb' _ h=>⟨λh'=>h (hO0 b' h'),rfl⟩,λ_ cs _ _ h=>⟨cs,_,h,rfl⟩⟩
   obtain⟨v,ρ',w',r1,r2⟩:=append_nil (ty:=o.type) (k:=k) (news:=I8 str) (f:=KL str) T m0 fr (λe' he'=>hlt e' (by rw[a1];rcases Bl.1 he' with h|h<;>simp[h])) (by rw[J5];exact S) (T6 str) (by rw[J5];omega) (An _);refine⟨v,ρ',w',r1,?_⟩;simp only[BW,Lx,FE];rw[J5]at r2;exact⟨r2.mem,x0.trans r2.ext,r2.far,r2.rep⟩
  |osl hr hb hc' hcs hmx=>
   rename_i cap b T' cs fz;rw[<-hke]at hr;obtain⟨cs0,q2,q3⟩:=m.at hm hr;rw[hb]at q2;cases q2;rw[a1]at m hlt;obtain⟨v,ρ',w',r1,r2⟩:=Xh (ty:=o.type) (k:=k) (news:=I8 str) (f:=KL str) T m hr rfl q1 hle hb (by simpa using hcs) (by simpa using hmx) fr hlt (by rw[J5];exact S) (T6 str) (by rw[J5];omega) (An _);rw[a1];refine⟨v,ρ',w',?_,?_⟩
   ·simpa using r1
   ·rw[J5]at r2;exact r2
 ·rename_i hgs
  simp only[BP,Bq]at h;obtain⟨rfl,rfl,rfl⟩:=h;obtain⟨rfl,rfl,rfl,hby⟩:=hp;have T:=T0;rw[hgs]at hsr;cases hsr;have S:=Xp (w:=w) (ty:=o.type) T hu str;obtain⟨v,ρ',w',r1,r2⟩:=append_nil (ty:=o.type) (k:=k) (news:=I8 str) (f:=KL str) T m fr hlt (by rw[J5];exact S) (T6 str) (by rw[J5];omega) (An _);rw[J5]at r2;exact⟨v,ρ',w',r1,r2⟩
end
section
variable {C:BA} {F:AY} {s:St} {ops:Array Oper} {o:Oper} {os:List Oper} {K:St->Prop}
theorem qT {tt:Nat->Option A7}{H:Hp}{n k:Nat}{g:Operand->D}{op:Op}{d:D}{H':Hp}{p:Prop}(h:OM tt H n k g op=some (d,H',p))(hl:∀e∈H,e.g<n):∀e∈H',e.g<n+1:=by
 unfold OM at h
 (repeat' split at h)<;>try(cases h;done)
 ·cases h
  intro e he;rcases A8.1 he with rfl|he
  ·exact IF _
  ·exact Di (hl e (XO he))
 ·cases h
  intro e he;rcases A8.1 he with rfl|he
  ·exact IF _
  ·exact Di (hl e he)
theorem e1C {tt:Nat->Option A7}(k:Nat)(htt:C3 C.P tt){d:D}{H':Hp}{p:Prop}(hw:CP ops s.env o=some true)(he:OM tt s.H s.n k (BI s.env) o.op=some (d,H',p))(hp:p)
  (h:BL C F ops os ⟨Bi s.env o.dst d,H',s.n+1⟩ K):BL C F ops (o::os) s K:=
 BL.step hw (λρ a w hs=>by
  obtain⟨v,ρ',w',h1,h2⟩:=ly htt hs.mem (λk=>hs.fresh k _ (An _)) (λe he=>Nat.ne_of_lt (hs.gen e he)) (Dm hs.env) he hp;exact⟨v,ρ',w',.inl h1,⟨h2.mem,h2.ext,λk g hg=>by rw[h2.far k g (by omega)];exact hs.fresh k g (by omega),h2.rep⟩,qT he hs.gen⟩) h
end
inductive XI where
 |map (key elem:Nat) (zero:Value)
 |strs (n:Nat)
def O8 (P:Program):Nat->List Field->Bool
 |_,[]=>true
 |i,f::fs=>(f.name != "_")&&Nat.beq f.offset i&&(match P.underlying f.type with|some .string=>true|_=>false)&&O8 P (i+1) fs
def Mv (P:Program)(t:Nat):Option XI:=match P.underlying t with
 |some (.map k e)=>match P.underlying k with
  |some .string=>match P.info? e with
   |some i=>match i.zero with
    |some z=>match La z i.size with
     |true=>some (.map k e z)
     |false=>none
    |none=>none
   |none=>none
  |_=>none
 |some (.struct fs)=>match P.stoodInHeld t||P.eqGuardType P.depth t with
  |false=>match O8 P 0 fs.toList with
   |true=>some (.strs fs.size)
   |false=>none
  |true=>none
 |_=>none
def M1 (P:Program)(xt:Nat->Option XI):Prop:=∀t i,xt t=some i->Mv P t=some i
def Ic (s:ByteArray):List D->List D->Option (Option D)
 | [],[]=>some none
 | .prim (.string k)::ks,d::vs=>match BE s k with
  |true=>some (some d)
  |false=>Ic s ks vs
 |_,_=>none
def HS:List D->List D->Option Bool
 | [],[]=>some true
 | .prim (.string a)::l,.prim (.string b)::l'=>match HS l l' with
  |some r=>some (BE a b&&r)
  |none=>none
 |_,_=>none
def Is (ok:Bool)(d:D)(b:Bool):D:=match ok with
 |true=>.tup [d,.prim (.bool b)]
 |false=>d
def iA:TI->Bool
 | .other | .ptr=>false
 |_=>true
def Gp (tt:Nat->Option A7)(xt:Nat->Option XI)(g:Operand->D):Op->Option (D×Prop)
 | .makeInterface t x=>match tt t with
  |some i=>match iA i.ti with
   |true=>some (.ifc t (g x),True)
   |false=>none
  |none=>none
 | .lookup t x ix ok=>match xt t with
  |some (.map _ _ z)=>match g x with
   | .mp ks vs=>match g ix with
    | .prim (.string s)=>match Ic s ks vs with
     |some (some d)=>some (Is ok d true,True)
     |some none=>some (Is ok (ofV z) false,True)
     |none=>none
    |_=>none
   |_=>none
  |_=>none
 | .binOp op t x y _=>match xt t with
  |some (.strs n)=>match g x with
   | .agg l=>match g y with
    | .agg l'=>match HS l l' with
     |some b=>match OR op b with
      |some c=>some (.prim (.bool c),Nat.beq l.length n=true)
      |none=>none
     |none=>none
    |_=>none
   |_=>none
  |_=>none
 |_=>none
section
variable {P:Program} {ρ:Lk} {O:Nat->Prop} {w:World}
theorem Uc (a b:ByteArray):(a==b)=BE a b:=beq_toListBytes a b
theorem Ya {s:ByteArray}:∀ {ks vs:List D} {es:List MapEntry} {r:Option D} (i:Nat),Ic s ks vs=some r->es.length=ks.length->es.length=vs.length ->
  (∀(j:Nat) (d:D),ks[j]?=some d->AU ρ O w d (es.getD j default).key)->(∀(j:Nat) (d:D),vs[j]?=some d->AU ρ O w d (es.getD j default).val) ->
  (match r with
   |none=>Instr.findNow .string (.string s) es i=some none
   |some d=>∃j v,Instr.findNow .string (.string s) es i=some (some (j,v))/\AU ρ O w d v)
 | [],[],[],r,i,h,_,_,_,_=>by simp only[Ic,BP]at h;subst h;rfl
 |k::ks,v::vs,e::es,r,i,h,h1,h2,hk,hv=>by
  obtain⟨kb,rfl⟩:∃a,k=.prim (.string a):=by
   unfold Ic at h;split at h<;>try(cases h;done)
   ·simp at*
   ·rename_i h1 _;cases h1;exact⟨_,rfl⟩
  simp only[Ic]at h;have h0:e.key=.string kb:=by
   have:=hk 0 _ rfl
   simp at this;generalize e.key=q at this;cases this;rfl
  have h3:Instr.findNow .string (.string s) (e::es) i=(match Instr.sameNow .string (.string s) e.key with
    |some true=>some (some (i,e.val))|some false=>Instr.findNow .string (.string s) es (i+1)|none=>none):=rfl
  rw[h0]at h3;have h4:Instr.sameNow .string (.string s) (.string kb)=some (BE s kb):=by
   show some (s==kb)=_;rw[Uc]
  rw[h4]at h3;cases hb:BE s kb with
  |true=>
   rw[hb]at h h3;simp only[BP]at h;subst h;exact⟨i,e.val,h3,by simpa using hv 0 v rfl⟩
  |false=>
   rw[hb]at h h3;dsimp only at h h3;rw[h3];exact Ya (i+1) h (by simpa using h1) (by simpa using h2) (λj d hd=>by simpa using hk (j+1) d (by simpa using hd)) (λj d hd=>by simpa using hv (j+1) d (by simpa using hd))
 | [],_::_,_,_,_,h,_,_,_,_=>by simp[Ic]at h
 | [],[],_::_,_,_,_,h1,_,_,_=>by simp at h1
 |_::_,[],[],_,_,_,h1,_,_,_=>by simp at h1
 |_::_,[],_::_,_,_,_,_,h2,_,_=>by simp at h2
 |_::_,_::_,[],_,_,_,h1,_,_,_=>by simp at h1
theorem PB {t k e:Nat}{z:Value}(h:Mv P t=some (.map k e z)):P.underlying t=some (.map k e)/\P.underlying k=some .string/\(∃i,P.info? e=some i/\i.zero=some z) /\
  ∀(j:Nat) (x:Value),z.cells[j]?=some x->one x=true:=by
 unfold Mv at h;split at h<;>try(cases h;done)
 ·rename_i k' e' h1
  split at h<;>try(cases h;done)
  rename_i h2;split at h<;>try(cases h;done)
  rename_i i h3;split at h<;>try(cases h;done)
  rename_i z' h4;split at h<;>try(cases h;done)
  rename_i h5;cases h;exact⟨h1,h2,⟨i,h3,h4⟩,(Ox h5).2⟩
 ·(repeat' split at h)<;>cases h
theorem m7 {t n:Nat}(h:Mv P t=some (.strs n)):∃fs:Array Field,P.underlying t=some (.struct fs)/\P.stoodInHeld t=false/\P.eqGuardType P.depth t=false/\O8 P 0 fs.toList=true/\fs.size=n:=by
 unfold Mv at h;split at h<;>try(cases h;done)
 ·(repeat' split at h)<;>cases h
 ·rename_i fs h1
  split at h<;>try(cases h;done)
  rename_i h2;split at h<;>try(cases h;done)
  rename_i h3;cases h;simp only[Hd]at h2;exact⟨fs,h1,h2.1,h2.2,h3,rfl⟩
theorem YL:∀ {l l':List D} {b:Bool},HS l l'=some b->l.length=l'.length
 | [],[],_,_=>rfl
 | [],_::_,_,h=>by simp[HS]at h
 |c::l,[],_,h=>by
  unfold HS at h;split at h
  ·simp at*
  ·simp at*
  ·cases h
 |c::l,c'::l',b,h=>by
  unfold HS at h;split at h
  ·simp at*
  ·rename_i h1 h2
   cases h1;cases h2;split at h
   ·rename_i hr;simp[YL hr]
   ·cases h
  ·cases h
theorem Xc (d:Nat){xs ys:Array Value}:∀(fs:List Field) (i:Nat) (l l':List D) (b:Bool),O8 P i fs=true->HS l l'=some b->l.length=fs.length ->
  (∀(j:Nat) (c:D),l[j]?=some c->AU ρ O w c (xs.getD (i+j) undef))->(∀(j:Nat) (c:D),l'[j]?=some c->AU ρ O w c (ys.getD (i+j) undef)) ->
  (∀j,j<fs.length->i+j<xs.size/\i+j<ys.size)->(Op.eqFields (d+1) xs ys fs).run P w=.ok b w
 | [],i,[],l',b,_,h,_,_,_,_=>by
  cases l' with
  |nil=>simp only[HS,BP]at h;subst h;rfl
  |cons=>simp[HS]at h
 |f::fs,i,c::l,l',b,hf,h,hl,hx,hy,hin=>by
  cases l' with
  |nil=>simp[HS]at h
  |cons c' l'=>
   obtain⟨a,rfl⟩:∃a,c=.prim (.string a):=by
    unfold HS at h;split at h<;>try(cases h;done)
    ·simp at*
    ·rename_i h1 _;cases h1;exact⟨_,rfl⟩
   obtain⟨a',rfl⟩:∃a,c'=.prim (.string a):=by
    unfold HS at h;split at h<;>try(cases h;done)
    ·simp at*
    ·rename_i _ h1;cases h1;exact⟨_,rfl⟩
   simp only[HS]at h;cases hr:HS l l' with
   |none=>simp[hr]at h
   |some r=>
    simp only[hr,BP]at h;simp only[O8,BY]at hf;obtain⟨⟨⟨f1,f2⟩,f3⟩,f4⟩:=hf;have f2:=CG f2;have f3:P.underlying f.type=some .string:=by split at f3<;>first|assumption|cases f3
    have hxa:xs[i]?=some (.string a):=by
     have:=hx 0 _ rfl
     rw[D9]at this;have hlt:=(hin 0 (by simp)).1;rw[D9]at hlt;rw[Aw,B9 hlt,JR]at this;rw[B9 hlt];generalize xs[i]=q at this;cases this;rfl
    have hya:ys[i]?=some (.string a'):=by
     have:=hy 0 _ rfl
     rw[D9]at this;have hlt:=(hin 0 (by simp)).2;rw[D9]at hlt;rw[Aw,B9 hlt,JR]at this;rw[B9 hlt];generalize ys[i]=q at this;cases this;rfl
    have ag:(isAgg f.type).run P w=.ok false w:=by
     unfold isAgg;rw[run_bind,C4 f3];rfl
    have part1:(part f.type xs f.offset).run P w=.ok (.string a) w:=by
     unfold part;rw[run_bind,ag];dsimp only;rw[AG (by simp),f2];simp only[hxa];rfl
    have part2:(part f.type ys f.offset).run P w=.ok (.string a') w:=by
     unfold part;rw[run_bind,ag];dsimp only;rw[AG (by simp),f2];simp only[hya];rfl
    have hne:f.name ≠ "_":=by simpa using f1
    simp only[Op.eqFields];rw[AH hne,run_bind,part1];dsimp only;rw[run_bind,part2];dsimp only;rw[run_bind,run_equalIn_string w d f.type a a' f3];dsimp only;have ih:=Xc d fs (i+1) l l' r f4 hr (by simpa using hl) (λj c hc=>by have:=hx (j+1) c (by simpa using hc);rwa [show i+(j+1)=i+1+j from by omega]at this)
     (λj c hc=>by have:=hy (j+1) c (by simpa using hc);rwa [show i+(j+1)=i+1+j from by omega]at this) (λj hj=>by have:=hin (j+1) (by simp;omega);omega)
    subst h;cases hb:BE a a' with
    |true=>
     unfold BE at hb;rw[hb];simpa using ih
    |false=>
     unfold BE at hb;rw[hb];rfl
 | [],_,_::_,_,_,_,_,h,_,_,_=>by simp at h
 |_::_,_,[],_,_,_,_,h,_,_,_=>by simp at h
theorem ou {t:Nat}{i:A7}(h:Eh P t=some i)(hc:iA i.ti=true):∃u,P.underlying t=some u/\∀ms,u≠.interface ms:=by
 cases hk:i.ti with
 |int k=>exact⟨_,Y8 h hk,by simp⟩
 |bool=>exact⟨_,Ym h hk,by simp⟩
 |string=>exact⟨_,MK h hk,by simp⟩
 |struct fs=>obtain⟨a,h1,_⟩:=Tt h hk;exact⟨_,h1,by simp⟩
 |slice e a b c=>exact⟨_,(FL h hk).1,by simp⟩
 |arr n e a=>obtain⟨a,h1,_⟩:=Uf h hk;exact⟨_,h1,by simp⟩
 |ptr=>rw[hk]at hc;cases hc
 |other=>rw[hk]at hc;cases hc
theorem dG {tt:Nat->Option A7}{xt:Nat->Option XI}{o:Oper}{g:Operand->D}{ev:Operand->Value}{d:D}{p:Prop}(htt:C3 P tt)(hxt:M1 P xt)(hg:∀x,AU ρ O w (g x) (ev x))
  (h:Gp tt xt g o.op=some (d,p)) (hp:p):∃v,(execOp ev o).run P w=.ok (.value v) w/\AU ρ O w d v:=by
 unfold execOp;unfold Gp at h;split at h<;>try(cases h;done)
 ·rename_i t x ho
  simp only[ho];split at h<;>try(cases h;done)
  rename_i i hi;split at h<;>try(cases h;done)
  rename_i hc;cases h;obtain⟨u,h1,h2⟩:=ou (htt _ _ hi) hc;refine⟨.iface t (ev x),?_,.ifc (hg x)⟩;rw[run_bind]
  have:(Instr.makeInterface t (ev x)).run P w=.ok (.iface t (ev x)) w:=by
   unfold Instr.makeInterface;rw[run_bind,C4 h1];dsimp only;split
   ·rename_i ms;exact Ak rfl (h2 ms)
   ·rfl
  rw[this];rfl
 ·rename_i t x ix ok ho
  simp only[ho];split at h<;>try(cases h;done)
  rename_i k e z hi;split at h<;>try(cases h;done)
  rename_i ks vs hgx;split at h<;>try(cases h;done)
  rename_i s hgi;obtain⟨a1,a2,⟨inf,a3,a4⟩,a5⟩:=PB (hxt _ _ hi);have hx:=hg x;have hy:=hg ix;rw[hgx]at hx;rw[hgi]at hy;generalize ev x=vx at hx;generalize ev ix=vi at hy;cases hy;cases hx with
  |mp hO hr hb h1 h2 hB hk hv=>
   rename_i r clock es;have hc:(Instr.checkKey es.isEmpty 10000 k (.string s)).run P w=.ok () w:=MapKept.run_checkKey (k:=.string s) a2 (by simp[MapKept.IsKey]) _ 9999;have hz:(zeroValue e).run P w=.ok z w:=Qq a3 a4 w;have find:∀q,Ic s ks vs=some q->_:=λq hq=>Ya (ρ:=ρ) (O:=O) (w:=w) (es:=es.toList) 0 hq (by simpa using h1) (by simpa using h2) (λj d hd=>by simpa[Aw]using hk j d hd) (λj d hd=>by simpa[Aw]using hv j d hd)
   have okR:∀(d:D) (v:Value) (b:Bool),AU ρ O w d v->AU ρ O w (Is ok d b) (if ok then .tuple #[v,.bool b]else v):=by
    intro d v b hr;cases ok with
    |false=>exact hr
    |true=>
     refine .tup rfl λi d' hd=>?_
     match i with
     | 0=>simp at hd;subst hd;exact hr
     | 1=>simp at hd;subst hd;exact .prim _
     |n+2=>simp at hd
   split at h<;>try(cases h;done)
   ·rename_i d' hq
    cases h;obtain⟨j,v,hf,hr'⟩:=find _ hq;refine⟨_,?_,okR _ v true hr'⟩;rw[run_bind]
    have:(Instr.lookup t (.map (some r)) (.string s) ok).run P w=.ok (if ok then .tuple #[v,.bool true]else v) w:=by
     simp[Instr.lookup,C4 a1,MapKept.run_getObj_map hb,hc,MapKept.run_findKey a2 hf,Result.andThen]
    rw[this];rfl
   ·rename_i hq
    cases h;have hf:=find _ hq;refine⟨_,?_,okR _ z false (.ofV λi x hx=>.inl (a5 i x hx))⟩;rw[run_bind]
    have:(Instr.lookup t (.map (some r)) (.string s) ok).run P w=.ok (if ok then .tuple #[z,.bool false]else z) w:=by
     simp[Instr.lookup,C4 a1,MapKept.run_getObj_map hb,hc,MapKept.run_findKey a2 hf,hz,Result.andThen]
    rw[this];rfl
 ·rename_i op t x y yt ho
  simp only[ho];split at h<;>try(cases h;done)
  rename_i n hi;split at h<;>try(cases h;done)
  rename_i l hgx;split at h<;>try(cases h;done)
  rename_i l' hgy;split at h<;>try(cases h;done)
  rename_i b hb;split at h<;>try(cases h;done)
  rename_i c hn;cases h;obtain⟨fs,a1,a2,a3,a4,a5⟩:=m7 (hxt _ _ hi);have hx:=hg x;have hy:=hg y;rw[hgx]at hx;rw[hgy]at hy;generalize ev x=vx at hx;generalize ev y=vy at hy;have hp:=CG hp;have hl':=YL hb;cases hx with
  |agg n1 o1 r1=>
   cases hy with
   |agg n2 o2 r2=>
    rename_i xs ys;have eqf:P.fieldsOf t=fs:=by unfold Program.fieldsOf;rw[a1]
    have run:(Op.equalIn 10000 t (.agg xs) (.agg ys)).run P w=.ok b w:=by
     rw[show(10000:Nat)=9998+1+1 from rfl,run_equalIn_struct w _ t xs ys (by rw[eqf];exact a1) a2,eqf];exact Xc (ρ:=ρ) (O:=O) 9998 fs.toList 0 l l' b a4 hb (by simp;omega) (λj c hc=>by rw[BW];exact r1 j c hc) (λj c hc=>by rw[BW];exact r2 j c hc)
      (λj hj=>by simp at hj;omega)
    refine⟨.bool c,?_,.prim _⟩;have r3:(do eqGuard op t x y (.agg xs) (.agg ys);binOp op t (.agg xs) (.agg ys):Sem Value).run P w=.ok (.bool c) w:=by
     rw[run_bind,run_eqGuard_agg w op t x y xs ys a3];dsimp only;unfold OR at hn;cases op<;>simp only[BP,reduceCtorEq]at hn
     ·subst hn;rw[run_eql_struct,run];rfl
     ·subst hn;rw[run_neq_struct,run];rfl
    rw[run_bind,r3];rfl
end
def Kz (tt:Nat->Option A7)(n k:Nat)(g:Operand->D):Op->Option (D×At×Prop)
 | .makeSlice t l c=>match tt t with
  |some i=>match i.ti with
   | .slice e esz eby ez=>match g l with
    | .prim (.int _ a)=>match g c with
     | .prim (.int _ b)=>some (.osl k n esz 0 a.toNat,⟨k,n,e,esz,List.replicate a.toNat (ofV ez)⟩,0<=a/\a<=b/\(eby:Int)*b<=281474976710656/\b<=9223372036854775807)
     |_=>none
    |_=>none
   |_=>none
  |none=>none
 |_=>none
section
variable {C:BA} {F:AY} {s:St} {ops:Array Oper} {o:Oper} {os:List Oper} {K:St->Prop} {ρ:Lk} {H:Hp} {w:World}
theorem aS {α:Type}{n i:Nat}{x d:α}(h:(List.replicate n x)[i]?=some d):i<n/\x=d:=by
 rw[List.getElem?_replicate]at h;split at h
 ·rename_i hi;exact⟨hi,FY h⟩
 ·cases h
theorem sy {tt:Nat->Option A7}{g:Operand->D}{ev:Operand->Value}{n k:Nat}{d:D}{e':At}{p:Prop}(htt:C3 C.P tt)(m:Al C F ρ H w)(fr:∀k,ρ k n=none)(hlt:∀e∈H,e.g≠n)
  (hg:∀x,AU ρ (AN F.X ρ H) w (g x) (ev x)) (h:Kz tt n k g o.op=some (d,e',p)) (hp:p):
  ∃v ρ' w',(execOp ev o).run C.P w=.ok (.value v) w'/\Jl C F H ρ w n d (some e') v ρ' w':=by
 unfold Kz at h;split at h<;>try(cases h;done)
 rename_i t l c ho;split at h<;>try(cases h;done)
 rename_i i hi;split at h<;>try(cases h;done)
 rename_i e esz eby ez hk;split at h<;>try(cases h;done)
 rename_i kl a hl;split at h<;>try(cases h;done)
 rename_i kc b hc;cases h;obtain⟨h0,hab,hby,hmx⟩:=hp;obtain⟨k1,⟨inf,k2,rfl,rfl,k5⟩,k6,k7⟩:=FL (htt _ _ hi) hk;have h1:=hg l;have h2:=hg c;rw[hl]at h1;rw[hc]at h2;generalize hvl:ev l=vl at h1;generalize hvc:ev c=vc at h2;cases h1;cases h2;have run:=run_make (P:=C.P) w t e inf ez k1 k2 k5 kl kc a b h0 hab hby hmx;have hcell:∀q,q<b.toNat*inf.size->(madeCells ez.cells (b.toNat*inf.size)).getD q undef=ez.cells.getD (q%inf.size) undef/\q%inf.size<ez.cells.size:=λq hq=>by
  have hpos:0<inf.size:=by
   rcases EL inf.size with h|h
   ·rw[h]at hq;simp at hq
   ·exact h
  have hm:q%ez.cells.size<ez.cells.size:=CH _ (by omega);rw[k6]at hm;refine⟨?_,by omega⟩;unfold madeCells;simp only[Aw,Array.getElem?_map];rw[B9 (by simpa using hq)];simp only[Array.getElem_range,Jy,JR];rw[k6,getElem!_pos ez.cells (q%inf.size) (by omega),HN];rfl
 have hec:(ofV ez).cells.length=inf.size/\∀(j:Nat) (c:D),(ofV ez).cells[j]?=some c->c=.prim (ez.cells.getD j undef):=by
  cases ez
  case tuple vs=>
   have:=k7 0 (.tuple vs) rfl
   simp[Ide.one]at this
  case agg vs=>
   refine⟨by simp only[ofV,D.cells,Ai,Im];exact k6,λj c hc=>?_⟩;simp only[ofV,D.cells,BC,Js,E6]at hc;obtain⟨x,hx,rfl⟩:=hc;show D.prim x=.prim (vs.getD j undef);rw[Aw,hx];rfl
  all_goals
   refine⟨k6,λj c hc=>?_⟩
   match j with
   | 0=>simp only[ofV,D.cells,TT,BP]at hc;subst hc;rfl
   |j+1=>simp[ofV,D.cells]at hc
 have hle:a.toNat<=b.toNat:=by omega
 have ho':De ρ (AN F.X ρ H) w ⟨k,n,e,inf.size,List.replicate a.toNat (ofV ez)⟩ (madeCells ez.cells (b.toNat*inf.size)):=by
  refine⟨by simp only[JN,size_madeCells];exact CS _ hle,λq d hd=>?_,λq v hv=>?_,λq d j c hd hcj=>?_⟩
  ·obtain⟨_,rfl⟩:=aS hd
   exact hec.1
  ·have hq:q<b.toNat*inf.size:=by have:=(DA.1 hv).1;rw[size_madeCells]at this;exact this
   obtain⟨c1,c2⟩:=hcell q hq;rw[Aw,hv,JR,Aw,B9 c2,JR]at c1;rw[c1];exact k7 _ _ (B9 c2)
  ·obtain⟨hq,rfl⟩:=aS hd
   have hj:j<inf.size:=by rw[<-hec.1];exact(BT.1 hcj).1
   rw[hec.2 j c hcj];dsimp only;have hlt2:q*inf.size+j<b.toNat*inf.size:=by
    have:(q+1)*inf.size<=b.toNat*inf.size:=CS _ (by omega)
    rw[B0]at this;omega
   rw[(hcell _ hlt2).1,Bb,Nat.mul_add_mod,Fs hj];exact .prim _
 obtain⟨m1,x1⟩:=m.alloc ⟨k,n,e,inf.size,List.replicate a.toNat (ofV ez)⟩ _ (fr k) (λe' he' h=>hlt e' he' h.2) ho';refine⟨.slice (some ⟨w.heap.size,0,none⟩) a.toNat b.toNat,ρ.put k n w.heap.size,_,?_,m1,x1,λk' g' hg=>by unfold Lk.put;rw[AG λh=>hg h.2],?_⟩
 ·unfold execOp
  simp only[ho,hvl,hvc];rw[run_bind,run];rfl
 ·exact QT (b:=w.heap.size) (T:=e) (fz:=(0,0)) (Ev _ _ _ _) (by rw[En];exact AH rfl) hle (by rw[size_madeCells]) (by simp only[maxLen];omega)
theorem rS {tt:Nat->Option A7}{n k:Nat}{g:Operand->D}{op:Op}{d:D}{e:At}{p:Prop}(h:Kz tt n k g op=some (d,e,p)):e.g=n:=by
 unfold Kz at h
 (repeat' split at h)<;>first|(cases h;done)|(cases h;rfl)
theorem kA {tt:Nat->Option A7}(k:Nat)(htt:C3 C.P tt){d:D}{e':At}{p:Prop}(hw:CP ops s.env o=some true)(he:Kz tt s.n k (BI s.env) o.op=some (d,e',p))(hp:p)
  (h:BL C F ops os ⟨Bi s.env o.dst d,e'::s.H,s.n+1⟩ K):BL C F ops (o::os) s K:=
 BL.step hw (λρ a w hs=>by
  obtain⟨v,ρ',w',h1,h2⟩:=sy htt hs.mem (λk=>hs.fresh k _ (An _)) (λe he=>Nat.ne_of_lt (hs.gen e he)) (Dm hs.env) he hp;refine⟨v,ρ',w',.inl h1,⟨h2.mem,h2.ext,λk g hg=>by rw[h2.far k g (by omega)];exact hs.fresh k g (by omega),h2.rep⟩,λe he2=>?_⟩;rcases A8.1 he2 with rfl|he2
  ·have:=rS he;omega
  ·exact Di (hs.gen e he2)) h
theorem BL.l' {tt:Nat->Option A7}(k:Nat)(htt:C3 C.P tt){d:D}{ne:Option At}{p:Prop}(hw:CP ops s.env o=some true)(he:Ex tt s.H s.n k (BI s.env) o.op=some (d,ne,p))(hp:p)
  (h:BL C F ops os ⟨Bi s.env o.dst d,DE ne s.H,s.n+1⟩ K):BL C F ops (o::os) s K:=
 BL.step hw (λρ a w hs=>by
  obtain⟨v,ρ',w',h1,h2⟩:=dE (λ_ h=>h) htt hs.mem (λk=>hs.fresh k _ (An _)) (λe he=>Nat.ne_of_lt (hs.gen e he)) (Dm hs.env) he hp;refine⟨v,ρ',w',.inl h1,⟨h2.mem,h2.ext,λk g hg=>by rw[h2.far k g (by omega)];exact hs.fresh k g (by omega),h2.rep⟩,λe he'=>?_⟩;cases ne with
  |none=>exact Di (hs.gen e he')
  |some e'=>
   rcases A8.1 he' with rfl|he'
   ·have:=bO he
    omega
   ·exact Di (hs.gen e he')) h
theorem BL.q {tt:Nat->Option A7}{xt:Nat->Option XI}(htt:C3 C.P tt)(hxt:M1 C.P xt){d:D}{p:Prop}(hw:CP ops s.env o=some true)(he:Gp tt xt (BI s.env) o.op=some (d,p))(hp:p)
  (h:BL C F ops os ⟨Bi s.env o.dst d,s.H,s.n+1⟩ K):BL C F ops (o::os) s K:=
 BL.step hw (λρ a w hs=>by
  obtain⟨v,h1,h2⟩:=dG htt hxt (Dm hs.env) he hp;exact⟨v,ρ,w,.inl h1,.pure hs h2,λe he=>Di (hs.gen e he)⟩) h
theorem YE {f t:Nat}{name:String}{d0:D}{r:Operand}{args:Array Operand}{tys:Array Nat}{a:Act}(ho:o.op=.call ⟨.invoke r name,args,tys⟩)(hr:BI s.env r=.ifc t d0)
  (hm:∀v w,(method (C.P.types.size+Made.depth) t v name).run C.P w=.ok (f,v) w) (hcall:J8 C.P f) (hs:Bu C F ρ s a w):
  ∃vs,(execOp a.eval o).run C.P w=.ok (.enter f vs) w/\vs.size=(d0::args.toList.map (BI s.env)).length /\
   ∀(i:Nat) (d:D),(d0::args.toList.map (BI s.env))[i]?=some d->AU ρ (AN F.X ρ s.H) w d (vs.getD i undef):=by
 have hrr:=Dm hs.env r;rw[hr]at hrr;generalize hv:a.eval r=v at hrr;cases hrr with
 |ifc h0=>
  rename_i v0;refine⟨#[v0]++args.map a.eval,?_,by simp;omega,λi d hd=>?_⟩
  ·unfold execOp
   simp only[ho];rw[run_bind]
   have:(resolve a.eval ⟨.invoke r name,args,tys⟩ o.type).run C.P w=.ok { target:=.fn (.method name) #[],args:=#[.iface t v0]++args.map a.eval } w:=by
    unfold resolve;simp only[hv];rfl
   rw[this];dsimp only;unfold invoke;have g0:(#[Value.iface t v0]++args.map a.eval)[0]?=some (.iface t v0):=by rw[HH (by simp)];rfl
   have g1:(#[Value.iface t v0]++args.map a.eval).extract 1 (#[Value.iface t v0]++args.map a.eval).size=args.map a.eval:=by
    apply Array.ext_getElem?;intro q;rw[Array.getElem?_extract];simp only[Jw,Kr,Br,IH,Array.size_map];rw[HG (by simp)];simp only[Kr,Br,IH];split
    ·congr 1;omega
    ·rw[QY (by simp;omega)]
   simp only[g0,g1];unfold callMethod;simp only[];rw[run_bind,Qu];dsimp only;rw[run_bind,hm];dsimp only;exact Tp hcall _ w
  ·cases i with
   |zero=>
    simp at hd;subst hd
    have:(#[v0]++args.map a.eval).getD 0 undef=v0:=by rw[Aw,HH (by simp)];rfl
    rw[this];exact h0
   |succ i=>
    simp only[Ks,BC,Js,E6]at hd;obtain⟨x,hx,rfl⟩:=hd
    have:(#[v0]++args.map a.eval).getD (i+1) undef=a.eval x:=by
     simp only[Aw];rw[HG (by simp)];simp[hx]
    rw[this];exact Dm hs.env x
theorem e1G {f t:Nat}{name:String}{d0:D}{ds:List D}{r:Operand}{args:Array Operand}{tys:Array Nat}{Φ:D->Hp->Nat->Prop}(hw:CP ops s.env o=some true)(ho:o.op=.call ⟨.invoke r name,args,tys⟩)(hr:BI s.env r=.ifc t d0)
  (hm:∀v w,(method (C.P.types.size+Made.depth) t v name).run C.P w=.ok (f,v) w) (hds:d0::args.toList.map (BI s.env)=ds) (hc:Cu C f ds s.H s.n Φ)
  (h:∀d H' n',Φ d H' n'->BL C F ops os ⟨Bi s.env o.dst d,H',n'⟩ K):BL C F ops (o::os) s K:=by
 intro hd l hl ρ a w hs;cases l with
 |nil=>simp at hl
 |cons i l=>
  simp only[Ci,Fu]at hl;simp only[GR,BY]at hd;obtain⟨vs,h1,h2,h3⟩:=YE ho hr hm hc.1 hs;rw[hds]at h2 h3;simp only[wpOps,hl.1];rw[AH (MS hs.env hw)];refine .inl ?_;unfold Oper.wp;rw[h1];refine(hc.2 F ρ w vs hs.mem hs.fresh hs.gen h2 h3).mono ?_;rintro e w' ⟨v,d,H',n',ρ',rfl,hΦ,m,x,fr,g,r⟩;exact h d H' n' hΦ hd.2 l hl.2 ρ' (a.put o.dst v) w' (hs.put m x fr g r hd.1)
structure tY (es:Array MapEntry)(clock:Nat)(ks vs:List D):Prop where
 hB:KR es clock
 h1:es.size=ks.length
 h2:es.size=vs.length
 hk:∀(i:Nat) (d:D),ks[i]?=some d->∀ρ O w,AU ρ O w d (es.getD i default).key
 hv:∀(i:Nat) (d:D),vs[i]?=some d->∀ρ O w,AU ρ O w d (es.getD i default).val
theorem KR.push {es:Array MapEntry}{clock:Nat}(h:KR es clock)(k v:Value):KR (es.push { key:=k,val:=v,born:=clock }) (clock+1):=by
 refine⟨λi e he=>?_,λi j e e' he he' hb=>?_⟩
 ·rw[Qd]at he
  split at he
  ·cases he;exact IF _
  ·exact Di (h.1 i e he)
 ·rw[Qd]at he he'
  split at he<;>split at he'
  ·omega
  ·cases he
   have:=h.1 j e' he'
   simp only at hb;omega
  ·cases he'
   have:=h.1 i e he
   simp only at hb;omega
  ·exact h.2 i j e e' he he' hb
def Xa (C:BA)(F:AY)(ops:Array Oper)(os:List Oper)(m:Nat)(ks vs:List D)(s:St)(K:St->Prop):Prop:=
 os.all (Df F.nt)=true->∀(l:List Nat),l.map (ops[·]?)=os.map some->∀ρ a w es clock,Bu C F ρ s a w->a.tmps.getD m undef=.map (some w.heap.size)->m<a.tmps.size->tY es clock ks vs ->
  wpOps C.P ops (K7 C F K) l a (w.alloc (.map es clock))
theorem Xa.done {m:Nat}{ks vs:List D}(h:BL C F ops os ⟨Bi s.env (some m) (.mp ks vs),s.H,s.n⟩ K):Xa C F ops os m ks vs s K:=by
 intro hds l hl ρ a w es clock hs hm hlt hr;have hO:¬AN F.X ρ s.H w.heap.size:=λh'=>Ak (hs.mem.own_lt h') (Nat.lt_irrefl _)
 have x:=BZ.allocPure (ρ:=ρ) (F:=F) (H:=s.H) (w:=w) (.map es clock);refine h hds l hl ρ a _ ⟨hs.mem.allocPure _,hs.fresh,hs.gen,λt=>?_,hs.nt,hs.dfr⟩;show AU _ _ _ (Ao.get ((m,.mp ks vs)::s.env) t) _;rw[JM]
 by_cases ht:m=t
 ·subst ht
  rw[AH rfl,hm];exact .mp hO (by simp) (by rw[En,AH rfl]) hr.h1 hr.h2 hr.hB (λi d hd=>hr.hk i d hd _ _ _) (λi d hd=>hr.hv i d hd _ _ _)
 ·rw[AG ht];exact(hs.env t).mono x
def LJ (C:BA)(f:Nat)(ds:List D)(d:D):Prop:=∀(ρ:Lk) (O:Nat->Prop) (w:World) (vs:Array Value),vs.size=ds.length->(∀(i:Nat) (x:D),ds[i]?=some x->AU ρ O w x (vs.getD i undef)) ->
 ∃v,(callFunc f vs).run C.P w=.ok (.value v) w/\AU ρ O w d v
theorem Xq {f:Nat}{g:Operand->D}{O:Nat->Prop}{first captured:List D}{fop:Operand}{args:Array Operand}{tys:Array Nat}{ρ:Lk}{a:Act}{w:World}(ho:o.op=.call ⟨.value fop,args,tys⟩)
  (hf:g fop=.clo (.func f) first captured) (hg:∀x,AU ρ O w (g x) (a.eval x)):
  ∃vs,(execOp a.eval o).run C.P w=(callFunc f vs).run C.P w/\vs.size=(first++args.toList.map g++captured).length /\
   ∀(i:Nat) (d:D),(first++args.toList.map g++captured)[i]?=some d->AU ρ O w d (vs.getD i undef):=by
 have hfr:=hg fop;rw[hf]at hfr;generalize hv:a.eval fop=v at hfr;cases hfr with
 |clo hn hc h1 h2=>
  rename_i fs cs;refine⟨fs++args.map a.eval++cs,?_,by simp[hn,hc],λi d hd=>?_⟩
  ·unfold execOp
   simp only[ho];rw[run_bind]
   have:(resolve a.eval ⟨.value fop,args,tys⟩ o.type).run C.P w=.ok { target:=.fn (.func f) cs,args:=fs++args.map a.eval } w:=by
    unfold resolve;simp only[hv];rfl
   rw[this];dsimp only;unfold invoke;rfl
  ·rw[Dh]at hd
   rcases BG i first.length with hi|hi
   ·rw[HI hi]at hd
    have:(fs++args.map a.eval++cs).getD i undef=fs.getD i undef:=by
     simp only[Aw];rw[NA,HH (by omega)]
    rw[this];exact h1 i d hd
   ·rw[Fq hi]at hd
    rcases BG (i-first.length) args.size with hj|hj
    ·rw[HI (by simpa using hj)]at hd
     simp at hd;obtain⟨x,hx,rfl⟩:=hd
     have:(fs++args.map a.eval++cs).getD i undef=a.eval x:=by
      simp only[Aw];rw[NA,HG (by omega),HH (by simp;omega),hn];simp[hx]
     rw[this];exact hg x
    ·rw[Fq (by simpa using hj)]at hd
     have:(fs++args.map a.eval++cs).getD i undef=cs.getD (i-first.length-args.size) undef:=by
      simp only[Aw];rw[NA,HG (by omega),HG (by simp;omega),hn];simp
     rw[this];exact h2 _ d (by simpa using hd)
theorem BL.nat {f:Nat}{first captured ds:List D}{fop:Operand}{args:Array Operand}{tys:Array Nat}{d:D}(hw:CP ops s.env o=some true)(ho:o.op=.call ⟨.value fop,args,tys⟩)
  (hf:BI s.env fop=.clo (.func f) first captured) (hds:first++args.toList.map (BI s.env)++captured=ds) (hc:LJ C f ds d)
  (h:BL C F ops os ⟨Bi s.env o.dst d,s.H,s.n+1⟩ K):BL C F ops (o::os) s K:=
 BL.step hw (λρ a w hs=>by
  obtain⟨vs,h1,h2,h3⟩:=Xq (C:=C) (a:=a) ho hf (Dm hs.env);rw[hds]at h2 h3;obtain⟨v,h4,h5⟩:=hc _ _ _ vs h2 h3;exact⟨v,ρ,w,.inl (h1.trans h4),.pure hs h5,λe he=>Di (hs.gen e he)⟩) h
theorem CC.nat {H:Hp}{g f:Nat}{env:Ao}{first captured ds:List D}{fop:Operand}{args:Array Operand}{tys:Array Nat}{d:D}(hw:CP ops env o=some true)(ho:o.op=.call ⟨.value fop,args,tys⟩)
  (hf:BI env fop=.clo (.func f) first captured) (hds:first++args.toList.map (BI env)++captured=ds) (hc:LJ C f ds d):CC C F ops H g env o d none:=by
 refine⟨by simp,λHe ρ a w m hsub fr hne hr=>.inr ⟨IN hr hw,.inl ?_⟩⟩;obtain⟨g',h1,h2⟩:=Iw hr;have hfop:fop∈o.op.operands:=by rw[ho];simp[Op.operands,Call.operands]
 have harg:∀x∈args.toList,BI env x=g' x:=λx hx=>h1 x (by rw[ho];simp[Op.operands,Call.operands];right;simpa using hx)
 rw[h1 fop hfop]at hf;rw[NK harg]at hds;obtain⟨vs,q1,q2,q3⟩:=Xq (C:=C) (g:=g') ho hf h2;rw[hds]at q2 q3;obtain⟨v,h4,h5⟩:=hc _ _ _ vs q2 q3;exact⟨v,ρ,w,q1.trans h4,m,.refl _ _ _,λ_ _ _=>rfl,h5⟩
end
def jK (op:BinOp)(k k':IntKind)(b:Int):Bool:=match op with
 | .quo | .rem=>decide (k=k') && !(decide (b=0))
 | .shl | .shr=>decide (0<=b)
 |_=>decide (k=k')
def Th (op:BinOp)(x y:Value):Bool:=match x,y with
 | .int k _,.int k' b=>jK op k k' b
 | .string a,.string b=>match op with
  | .add=>Nat.ble (a.size+b.size) 9223372036854775807
  |_=>true
 |_,_=>true
theorem g8 {op:BinOp}{x y v:Value}{p:Prop}(h:OL op x y=some (v,p))(hk:Th op x y=true):p:=by
 unfold OL at h;unfold Th at hk;split at h
 ·dsimp only at hk
  unfold jK at hk;cases op<;>simp only[BP,Bq]at h<;>obtain⟨_,rfl⟩:=h<;>simpa using hk
 ·cases op<;>simp only[BP,Bq,reduceCtorEq]at h<;>obtain⟨_,rfl⟩:=h<;>first|trivial|(dsimp only at hk;exact Dx hk)
 ·cases h
def XV (ti:TI)(x y:D):Bool:=match ti,x,y with
 | .slice ..,.sl false _ es,.prim (.slice none _ _)=>!es.isEmpty
 |_,_,_=>true
theorem xz {ti:TI}{x y:D}{b:Bool}{p:Prop}(h:NF ti x y=some (b,p))(hk:XV ti x y=true):p:=by
 unfold NF at h;split at h<;>try(cases h;done)
 all_goals(simp only[BP,Bq]at h;obtain⟨_,rfl⟩:=h)
 all_goals first
  |trivial
  |(simp only[XV]at hk;intro he;subst he;simp at hk)
def Wu (tt:Nat->Option A7)(op:BinOp)(t:Nat)(x y:D):Bool:=match x,y with
 | .prim (.int k a),.prim (.int k' b)=>Th op (.int k a) (.int k' b)
 | .prim (.string a),.prim (.string b)=>Th op (.string a) (.string b)
 |x,y=>match tt t with
  |some i=>XV i.ti x y
  |none=>true
theorem qF {tt:Nat->Option A7}{op:BinOp}{t:Nat}{x y d:D}{p:Prop}(h:QI tt op t x y=some (d,p))(hk:Wu tt op t x y=true):p:=by
 unfold QI at h;unfold Wu at hk;split at h
 ·dsimp only at hk
  split at h<;>try(cases h;done)
  rename_i hb;cases h;exact g8 hb hk
 ·dsimp only at hk
  split at h<;>try(cases h;done)
  rename_i hb;cases h;exact g8 hb hk
 ·rename_i h1 h2
  split at hk
  ·exact Ak rfl (h1 _ _ _ _ rfl)
  ·exact Ak rfl (h2 _ _ rfl)
  ·split at h<;>try(cases h;done)
   rename_i i hi;split at h<;>try(cases h;done)
   rename_i b q hb;split at h<;>try(cases h;done)
   cases h;rw[hi]at hk;exact xz hb hk
def OE (ag:Bool)(sz:Nat)(d:D):Bool:=match ag with
 |true=>match d with
  | .agg ds=>Nat.beq ds.length sz
  |_=>false
 |false=>Nat.beq sz 1&&d.one
theorem PD {ag:Bool}{sz:Nat}{d:D}(h:OE ag sz d=true):Ei ag sz d:=by
 unfold OE at h;split at h
 ·split at h
  ·rw[<-CG h];exact Ei.agg
  ·cases h
 ·simp only[BY]at h
  rw[CG h.1];exact TN h.2
def Sc (fs:List (Nat×Nat×Bool))(g:Operand->D):List (Nat×Operand)->List D->Bool
 | [],_=>true
 |(i,x)::r,cs=>match fs[i]? with
  |some (o,sz,ag)=>OE ag sz (g x)&&Nat.ble (o+sz) cs.length&&Sc fs g r (Fo cs o (FZ ag (g x)))
  |none=>true
theorem Yv {fs:List (Nat×Nat×Bool)}{g:Operand->D}:∀ {ps:List (Nat×Operand)} {cs cs':List D} {p:Prop},H3 fs g ps cs=some (cs',p)->Sc fs g ps cs=true->p
 | [],cs,cs',p,h,_=>by simp only[H3,BP,Bq]at h;obtain⟨_,rfl⟩:=h;trivial
 |(i,x)::r,cs,cs',p,h,hk=>by
  simp only[H3]at h;simp only[Sc]at hk;cases hf:fs[i]? with
  |none=>simp[hf]at h
  |some q=>
   obtain⟨o,sz,ag⟩:=q;simp only[hf]at h hk;cases hr:H3 fs g r (Fo cs o (FZ ag (g x)))with
   |none=>simp[hr]at h
   |some q=>
    obtain⟨c2,p2⟩:=q;simp only[hr,BP,Bq]at h;obtain⟨_,rfl⟩:=h;simp only[BY]at hk;exact⟨⟨PD hk.1.1,Dx hk.1.2⟩,Yv hr hk.2⟩
def QM (n:Nat):D->Bool
 | .prim (.int _ x)=>decide (0<=x)&&decide (x<=n)
 |_=>true
theorem Rx {n m:Nat}{d:D}{p:Prop}(h:LY n d=some (m,p))(hk:QM n d=true):p:=by
 unfold LY at h;split at h
 ·simp only[BP,Bq]at h;obtain⟨_,rfl⟩:=h
  simpa[QM]using hk
 ·cases h
def P5 (n:Nat)(lo hi:Option D):Bool:=match hi with
 |none=>match lo with
  |none=>true
  |some l=>QM n l
 |some h=>QM n h&&(match LY n h with
  |some (m,_)=>match lo with
   |none=>true
   |some l=>QM m l
  |none=>true)
theorem Uw {n a b:Nat}{lo hi:Option D}{p:Prop}(h:I7 n lo hi=some (a,b,p))(hk:P5 n lo hi=true):p:=by
 unfold I7 at h;unfold P5 at hk;cases hi with
 |none=>
  cases lo with
  |none=>simp only[BP,Bq]at h;obtain⟨_,_,rfl⟩:=h;trivial
  |some l=>
   dsimp only at h hk;split at h<;>try(cases h;done)
   rename_i hb;cases h;exact Rx hb hk
 |some hh=>
  dsimp only at h hk;simp only[BY]at hk;split at h<;>try(cases h;done)
  rename_i m q hb;rw[hb]at hk;cases lo with
  |none=>cases h;exact Rx hb hk.1
  |some l=>
   dsimp only at h hk;split at h<;>try(cases h;done)
   rename_i hb2;cases h;exact⟨Rx hb hk.1,Rx hb2 hk.2⟩
def VZ (tt:Nat->Option A7)(t:Nat)(x:D)(lo hi:Option D):Bool:=match tt t with
 |some i=>match i.ti,x with
  | .string,.prim (.string s)=>P5 s.size lo hi
  | .slice _ esz _ _,.sl _ sz es=>P5 es.length lo hi&&Nat.beq esz sz
  | .slice _ esz _ _,.osl _ _ sz _ len=>P5 len lo hi&&Nat.beq esz sz&&(match I7 len lo hi with
   |some (l,h,_)=>Nat.blt l h||Nat.beq l 0
   |none=>true)
  |_,_=>true
 |none=>true
theorem mu {tt:Nat->Option A7}{t:Nat}{x d:D}{lo hi:Option D}{p:Prop}(h:Pm tt t x lo hi=some (d,p))(hk:VZ tt t x lo hi=true):p:=by
 unfold Pm at h;unfold VZ at hk;cases hi':tt t with
 |none=>simp[hi']at h
 |some i=>
  simp only[hi']at h hk;split at h<;>try(cases h;done)
  ·rename_i hti
   simp only[hti]at hk;split at h<;>try(cases h;done)
   rename_i hb;cases h;exact Uw hb hk
  ·rename_i hti
   simp only[hti,BY]at hk;split at h<;>try(cases h;done)
   rename_i hb;cases h;exact⟨Uw hb hk.1,CG hk.2⟩
  ·rename_i hti
   simp only[hti,BY]at hk;split at h<;>try(cases h;done)
   rename_i l hh q hb;cases h;simp only[hb]at hk;refine⟨Uw hb hk.1.1,CG hk.1.2,?_⟩
   have:=hk.2
   simp only[Kx]at this;exact this.imp Nat.blt_eq.mp CG
theorem Y9 {k:IntKind}:∀ {r:List D} {a:Int} {d:D} {p:Prop},LO k a r=some (d,p)->p
 | [],a,d,p,h=>by simp only[LO,BP,Bq]at h;obtain⟨_,rfl⟩:=h;trivial
 |x::r,a,d,p,h=>by
  unfold LO at h;split at h
  ·rename_i h1;cases h1
  ·rename_i h1;cases h1;exact Y9 h
  ·cases h
theorem Yu {k:IntKind}:∀ {r:List D} {a:Int} {d:D} {p:Prop},LN k a r=some (d,p)->p
 | [],a,d,p,h=>by simp only[LN,BP,Bq]at h;obtain⟨_,rfl⟩:=h;trivial
 |x::r,a,d,p,h=>by
  unfold LN at h;split at h
  ·rename_i h1;cases h1
  ·rename_i h1;cases h1;exact Yu h
  ·cases h
theorem lz {tt:Nat->Option A7}{b:Builtin}{tys:List Nat}{args:List D}{d:D}{p:Prop}(h:PC tt b tys args=some (d,p)):p:=by
 unfold PC at h
 (repeat' split at h)<;>first|(cases h;done)|(cases h;trivial)|exact Y9 h|exact Yu h
def NH (tt:Nat->Option A7)(g:Operand->D):Op->Bool
 | .pick c a b=>match g c with
  | .prim (.bool true)=>(H5 (g a)).2
  | .prim (.bool false)=>(H5 (g b)).2
  |_=>true
 | .build t ps=>match tt t with
  |some i=>match Ry i.ti with
   |some fs=>Sc fs g ps.toList (i.zero.cells.toList.map .prim)
   |none=>true
  |none=>true
 | .binOp op t x y _=>Wu tt op t (g x) (g y)
 | .slice t x lo hi none=>VZ tt t (g x) (lo.map g) (hi.map g)
 | .indexAddr t x ix=>match tt t with
  |some i=>match i.ti,g ix with
   | .arr n _ _,.prim (.int _ j)=>decide (0<=j)&&decide (j<n)
   | .slice _ esz _ _,.prim (.int _ j)=>match g x with
    | .osl _ _ sz _ len=>decide (0<=j)&&decide (j<len)&&Nat.beq esz sz
    |_=>true
   |_,_=>true
  |none=>true
 | .index t x ix=>match tt t with
  |some i=>match i.ti,g x,g ix with
   | .string,.prim (.string s),.prim (.int _ j)=>decide (0<=j)&&decide (j<s.size)
   |_,_,_=>true
  |none=>true
 |_=>true
theorem gX {tt:Nat->Option A7}{g:Operand->D}{op:Op}{d:D}{p:Prop}(h:HL tt g op=some (d,p))(hk:NH tt g op=true):p:=by
 unfold HL at h;split at h<;>try(cases h;done)
 ·cases h;trivial
 ·cases h;trivial
 ·rename_i c a b
  simp only[NH]at hk;split at h<;>try(cases h;done)
  rename_i t hc;rw[hc]at hk;cases h;cases t
  ·exact⟨λh=>(by cases h),λ_=>hk⟩
  ·exact⟨λ_=>hk,λh=>(by cases h)⟩
 ·rename_i t ps
  simp only[NH]at hk;unfold Pg at h;split at h<;>try(cases h;done)
  rename_i i hi;simp only[hi]at hk;split at h<;>try(cases h;done)
  rename_i fs hf;simp only[hf]at hk;split at h<;>try(cases h;done)
  rename_i hfl;cases h;exact Yv hfl hk
 ·split at h<;>first|(cases h;done)|(cases h;trivial)
 ·exact qF h hk
 ·split at h<;>first|(cases h;done)|(cases h;trivial)
 ·split at h<;>try(cases h;done)
  split at h<;>first|(cases h;done)|(cases h;trivial)
 ·cases h;trivial
 ·exact mu h hk
 ·(repeat' split at h)<;>first|(cases h;done)|(cases h;trivial)
 ·(repeat' split at h)<;>first|(cases h;done)|(cases h;trivial)
 ·rename_i t x ix
  simp only[NH]at hk;split at h<;>try(cases h;done)
  rename_i i hi;simp only[hi]at hk;split at h<;>try(cases h;done)
  ·rename_i h1 h2
   simp only[h1,h2]at hk;split at h<;>try(cases h;done)
   cases h;simpa using hk
  ·rename_i h1 h2
   simp only[h1,h2]at hk;split at h<;>try(cases h;done)
   rename_i h3;cases h;simp only[h3,BY,Gi]at hk;exact⟨hk.1.1,hk.1.2,CG hk.2⟩
 ·rename_i t x ix
  simp only[NH]at hk;split at h<;>try(cases h;done)
  rename_i i hi;simp only[hi]at hk;split at h<;>try(cases h;done)
  rename_i h1 h2 h3;simp only[h1,h2,h3]at hk;cases h;simpa using hk
 ·(repeat' split at h)<;>first|(cases h;done)|(cases h;trivial)
 ·exact lz h
def OI (ag:Bool)(sz:Nat):List D->Bool
 | []=>true
 |d::l=>OE ag sz d&&OI ag sz l
theorem Zs {ag:Bool}{sz:Nat}:∀ {l:List D},OI ag sz l=true->SP ag sz l
 | [],_=>trivial
 | [d],h=>by simp only[OI,BY]at h;exact PD h.1
 |d::d'::l,h=>by simp only[OI,BY]at h;exact⟨PD h.1,Zs (by simp only[OI,BY];exact h.2)⟩
def K5 (tt:Nat->Option A7)(H:Hp)(g:Operand->D):Op->Bool
 | .load t x=>match tt t with
  |some i=>match g x with
   | .optr k gg sz j off=>match Hp.get H k with
    |some e=>match e.es[j]? with
     |some d=>Nat.beq gg e.g&&Nat.beq sz e.sz&&(bif i.ag then Nat.ble (off+i.sz) d.cells.length else true)
     |none=>true
    |none=>true
   | .pptr d=>match i.ag with
    |true=>match d with
     | .agg ds=>Nat.beq ds.length i.sz
     |_=>true
    |false=>KO d
   |_=>true
  |none=>true
 | .box t x=>match tt t with
  |some i=>OE i.ag i.sz (g x)
  |none=>true
 | .buildSlice t len ps=>match tt t with
  |some i=>match i.ti with
   | .slice e esz _ _=>match len with
    | 0=>true
    |len+1=>match tt e with
     |some ie=>match Je g 0 ps.toList with
      |some es=>OI ie.ag esz es&&Nat.beq es.length (len+1)&&Nat.ble ((len+1)*esz) 16777216&&Nat.ble 1 esz
      |none=>true
     |none=>true
   |_=>true
  |none=>true
 |_=>true
theorem V5 {tt:Nat->Option A7}{H:Hp}{n k:Nat}{g:Operand->D}{op:Op}{d:D}{ne:Option At}{p:Prop}(h:Ex tt H n k g op=some (d,ne,p))(hk:K5 tt H g op=true):p:=by
 unfold Ex at h;split at h<;>try(cases h;done)
 ·simp only[K5]at hk
  split at h<;>try(cases h;done)
  rename_i i hi;simp only[hi]at hk;split at h<;>try(cases h;done)
  ·rename_i h1
   simp only[h1]at hk;split at h<;>try(cases h;done)
   rename_i e he;simp only[he]at hk;split at h<;>try(cases h;done)
   rename_i d1 hd;simp only[hd]at hk;split at h<;>try(cases h;done)
   cases h;simp only[BY]at hk;exact⟨CG hk.1.1,CG hk.1.2,hk.2⟩
  ·rename_i h1
   simp only[h1]at hk;split at h
   ·rename_i ha
    simp only[ha]at hk;split at h<;>try(cases h;done)
    cases h;exact hk
   ·rename_i ha
    simp only[ha]at hk;cases h;exact hk
 ·split at h<;>first|(cases h;done)|(cases h;trivial)
 ·simp only[K5]at hk
  split at h<;>try(cases h;done)
  rename_i i hi;simp only[hi]at hk;cases h;exact PD hk
 ·simp only[K5]at hk
  split at h<;>try(cases h;done)
  rename_i i hi;simp only[hi]at hk;split at h<;>try(cases h;done)
  rename_i h1;simp only[h1]at hk;split at h
  ·split at h<;>first|(cases h;done)|(cases h;trivial)
  ·dsimp only at hk
   split at h<;>try(cases h;done)
   rename_i h2;simp only[h2]at hk;split at h<;>try(cases h;done)
   rename_i h3;simp only[h3,BY]at hk;cases h;exact⟨Zs hk.1.1.1,CG hk.1.1.2,hk.1.2,hk.2⟩
def Tg (tt:Nat->Option A7)(H:Hp)(g:Operand->D):Op->Bool
 | .store t x y=>match tt t with
  |some i=>match g x with
   | .optr k gg sz _ off=>match Hp.get H k with
    |some e=>OE i.ag i.sz (g y)&&Nat.beq gg e.g&&Nat.beq sz e.sz&&Nat.ble (off+i.sz) e.sz
    |none=>true
   |_=>true
  |none=>true
 |_=>true
theorem gZ {tt:Nat->Option A7}{H:Hp}{g:Operand->D}{op:Op}{k:Nat}{e':At}{p:Prop}(h:Fw tt H g op=some (k,e',p))(hk:Tg tt H g op=true):p:=by
 unfold Fw at h;split at h<;>try(cases h;done)
 simp only[Tg]at hk;split at h<;>try(cases h;done)
 rename_i i hi;simp only[hi]at hk;split at h<;>try(cases h;done)
 rename_i h1;simp only[h1]at hk;split at h<;>try(cases h;done)
 rename_i h2;simp only[h2,BY]at hk;split at h<;>try(cases h;done)
 cases h;exact⟨PD hk.1.1.1,CG hk.1.1.2,CG hk.1.2,hk.2⟩
def Wi (H:Hp)(esz:Nat):D->Bool
 | .sl _ sz _=>Nat.beq sz esz
 | .osl k g sz i len=>match Hp.get H k with
  |some e=>Nat.beq g e.g&&Nat.beq sz e.sz&&Nat.beq sz esz&&Nat.ble (i+len) e.es.length
  |none=>true
 |_=>true
theorem aJ {H:Hp}{esz:Nat}{d:D}{es:List D}{p:Prop}(h:Ii H esz d=some (es,p))(hk:Wi H esz d=true):p:=by
 unfold Ii at h;split at h<;>try(cases h;done)
 ·cases h;exact CG hk
 ·simp only[Wi]at hk
  split at h<;>try(cases h;done)
  rename_i h1;simp only[h1,BY]at hk;cases h;exact⟨CG hk.1.1.1,CG hk.1.1.2,CG hk.1.2,Dx hk.2⟩
 ·cases h;trivial
def Qi (tt:Nat->Option A7)(H:Hp)(g:Operand->D):Op->Bool
 | .call ⟨.builtin .append,args,tys⟩=>match args.toList with
  | [s,x]=>match tys.toList with
   | [t,_]=>match tt t with
    |some i=>match i.ti with
     | .slice e esz eby _=>Wi H esz (g x)&&Nat.ble 1 eby&&Nat.ble 1 esz&&(match Ii H esz (g x)with
      |some (news,_)=>match g s with
       | .osl k1 g1 sz _ len=>match Hp.get H k1 with
        |some e1=>Nat.beq g1 e1.g&&Nat.beq sz e1.sz&&Nat.beq sz esz&&Nat.beq e1.T e&&Nat.ble len e1.es.length&&Nat.ble ((len+news.length)*eby) 140737488355328
        |none=>true
       |_=>Nat.ble (news.length*eby) 140737488355328
      |none=>true)
     |_=>true
    |none=>true
   |_=>true
  |_=>true
 |_=>true
theorem V4 {tt:Nat->Option A7}{H:Hp}{n k:Nat}{g:Operand->D}{op:Op}{d:D}{H':Hp}{p:Prop}(h:Eb tt H n k g op=some (d,H',p))(hk:Qi tt H g op=true):p:=by
 unfold Eb at h;split at h<;>try(cases h;done)
 simp only[Qi]at hk;split at h<;>try(cases h;done)
 rename_i h1;simp only[h1]at hk;split at h<;>try(cases h;done)
 rename_i h2;simp only[h2]at hk;split at h<;>try(cases h;done)
 split at h<;>try(cases h;done)
 rename_i h3;simp only[h3]at hk;split at h<;>try(cases h;done)
 rename_i h4;simp only[h4]at hk;split at h<;>try(cases h;done)
 rename_i h5;simp only[h5,BY]at hk;obtain⟨⟨⟨k1,k2⟩,k3⟩,k4⟩:=hk;split at h<;>try(cases h;done)
 ·rename_i h6
  simp only[h6]at k4;split at h<;>try(cases h;done)
  rename_i h7;simp only[h7,BY]at k4;cases h;exact⟨aJ h5 k1,CG k4.1.1.1.1.1,CG k4.1.1.1.1.2,CG k4.1.1.1.2,CG k4.1.1.2,Dx k4.1.2,Dx k4.2,
   Dx k2,Dx k3⟩
 ·rename_i h6
  simp only[h6]at k4;cases h;exact⟨aJ h5 k1,Dx k4,Dx k2,Dx k3⟩
def XW (tt:Nat->Option A7)(g:Operand->D):Op->Bool
 | .makeSlice t l c=>match tt t with
  |some i=>match i.ti with
   | .slice _ _ eby _=>match g l with
    | .prim (.int _ a)=>match g c with
     | .prim (.int _ b)=>decide (0<=a)&&decide (a<=b)&&decide ((eby:Int)*b<=281474976710656)&&decide (b<=9223372036854775807)
     |_=>true
    |_=>true
   |_=>true
  |none=>true
 |_=>true
theorem yA {tt:Nat->Option A7}{n k:Nat}{g:Operand->D}{op:Op}{d:D}{e:At}{p:Prop}(h:Kz tt n k g op=some (d,e,p))(hk:XW tt g op=true):p:=by
 unfold Kz at h;split at h<;>try(cases h;done)
 simp only[XW]at hk;split at h<;>try(cases h;done)
 rename_i h1;simp only[h1]at hk;split at h<;>try(cases h;done)
 rename_i h2;simp only[h2]at hk;split at h<;>try(cases h;done)
 rename_i h3;simp only[h3]at hk;split at h<;>try(cases h;done)
 rename_i h4;simp only[h4,BY,Gi]at hk;cases h;exact⟨hk.1.1.1,hk.1.1.2,hk.1.2,hk.2⟩
def Tf (xt:Nat->Option XI)(g:Operand->D):Op->Bool
 | .binOp _ t x _ _=>match xt t with
  |some (.strs n)=>match g x with
   | .agg l=>Nat.beq l.length n
   |_=>true
  |_=>true
 |_=>true
theorem gY {tt:Nat->Option A7}{xt:Nat->Option XI}{g:Operand->D}{op:Op}{d:D}{p:Prop}(h:Gp tt xt g op=some (d,p))(hk:Tf xt g op=true):p:=by
 unfold Gp at h;split at h<;>try(cases h;done)
 ·(repeat' split at h)<;>first|(cases h;done)|(cases h;trivial)
 ·(repeat' split at h)<;>first|(cases h;done)|(cases h;trivial)
 ·simp only[Tf]at hk
  split at h<;>try(cases h;done)
  rename_i h1;simp only[h1]at hk;split at h<;>try(cases h;done)
  rename_i h2;simp only[h2]at hk;split at h<;>try(cases h;done)
  split at h<;>try(cases h;done)
  split at h<;>try(cases h;done)
  cases h;exact hk
def Hj {α:Type}(n:Nat)(k:Nat->α):α:=match n with
 | 0=>k 0
 |m+1=>k (m+1)
def kS {α:Type}(z:Int)(k:Int->α):α:=match z with
 | .ofNat n=>match n with
  | 0=>k (.ofNat 0)
  |m+1=>k (.ofNat (m+1))
 | .negSucc n=>match n with
  | 0=>k (.negSucc 0)
  |m+1=>k (.negSucc (m+1))
def Tb {α:Type}:List UInt8->(List UInt8->α)->α
 | [],k=>k []
 |b::l,k=>Hj b.toNat λn=>Tb l λl'=>k (UInt8.ofNat n::l')
def XR {α:Type}(v:Value)(k:D->α):α:=match v with
 | .int kd z=>kS z λz'=>k (.prim (.int kd z'))
 | .bool b=>match b with
  |true=>k (.prim (.bool true))
  |false=>k (.prim (.bool false))
 | .string s=>Tb s.data.toList λl=>k (.prim (.string ⟨l.toArray⟩))
 |v=>k (.prim v)
def L8 {α:Type}(d:D)(k:D->α):α:=match d with
 | .prim v=>XR v k
 | .osl a g sz i len=>Hj a λa=>Hj g λg=>Hj i λi=>Hj len λlen=>k (.osl a g sz i len)
 | .optr a g sz i off=>Hj a λa=>Hj g λg=>Hj i λi=>Hj off λoff=>k (.optr a g sz i off)
 |d=>k d
def Of {α:Type}:List D->(List D->α)->α
 | [],k=>k []
 |d::l,k=>L8 d λd'=>Of l λl'=>k (d'::l')
def Oe {α:Type}(d:D)(k:D->α):α:=match d with
 | .agg l=>Of l λl'=>k (.agg l')
 | .tup l=>Of l λl'=>k (.tup l')
 | .sl nn sz es=>Of es λes'=>k (.sl nn sz es')
 |d=>L8 d k
theorem Mk {α:Type}(n:Nat)(k:Nat->α):Hj n k=k n:=by cases n<;>rfl
theorem yF {α:Type}(z:Int)(k:Int->α):kS z k=k z:=by
 cases z with
 |ofNat n=>cases n<;>rfl
 |negSucc n=>cases n<;>rfl
theorem eX {α:Type}:∀(l:List UInt8) (k:List UInt8->α),Tb l k=k l
 | [],_=>rfl
 |b::l,k=>by simp only[Tb,Mk,eX l];congr 2;exact UInt8.ofNat_toNat
theorem yE {α:Type}(v:Value)(k:D->α):XR v k=k (.prim v):=by
 unfold XR;split
 ·exact yF _ _
 ·rename_i b;cases b<;>rfl
 ·rw[eX]
 ·rfl
theorem eW {α:Type}(d:D)(k:D->α):L8 d k=k d:=by
 unfold L8;split
 ·exact yE _ _
 ·simp only[Mk]
 ·simp only[Mk]
 ·rfl
theorem ST {α:Type}:∀(l:List D) (k:List D->α),Of l k=k l
 | [],_=>rfl
 |d::l,k=>by simp only[Of,eW,ST l]
theorem Nm {α:Type}(d:D)(k:D->α):Oe d k=k d:=by
 unfold Oe;split
 ·exact ST _ _
 ·exact ST _ _
 ·exact ST _ _
 ·exact eW _ _
def Ie (f:D->Bool):List D->Bool
 | []=>true
 |d::l=>f d&&Ie f l
def R9 (f:D->Bool):D->Bool
 | .agg l=>Ie f l
 |d=>f d
def Hx:Nat->D->Bool
 | 0,_=>false
 |n+1,d=>match d with
  | .any=>true
  | .prim _=>true
  | .agg l=>Ie (Hx n) l
  | .tup l=>Ie (Hx n) l
  | .sl _ _ es=>Ie (R9 (Hx n)) es
  | .pptr e=>R9 (Hx n) e
  | .clo _ a b=>Ie (Hx n) a&&Ie (Hx n) b
  | .mp a b=>Ie (Hx n) a&&Ie (Hx n) b
  | .ifc _ d=>Hx n d
  |_=>false
theorem Jc {f:D->Bool}:∀ {l:List D},Ie f l=true->∀d∈l,f d=true
 | [],_,_,h=>by simp at h
 |x::l,h,d,hd=>by
  simp only[Ie,BY]at h;rcases A8.1 hd with rfl|hd
  ·exact h.1
  ·exact Jc h.2 d hd
theorem Yo {f:D->Bool}{d:D}(h:R9 f d=true):∀c∈d.cells,f c=true:=by
 unfold R9 at h;split at h
 ·exact Jc h
 ·rename_i hne
  intro c hc;cases d<;>simp only[D.cells,D4]at hc<;>first|(subst hc;exact h)|exact Ak rfl (hne _)
theorem Hv:∀ {n:Nat} {d:D},Hx n d=true->CJ d
 | 0,_,h=>by cases h
 |n+1,d,h=>by
  simp only[Hx]at h;split at h
  ·exact .any
  ·exact .prim _
  ·exact .agg λd hd=>Hv (Jc h d hd)
  ·exact .tup λd hd=>Hv (Jc h d hd)
  ·exact .sl λe he c hc=>Hv (Yo (Jc h e he) c hc)
  ·exact .pptr λc hc=>Hv (Yo h c hc)
  ·simp only[BY]at h
   exact .clo (λd hd=>Hv (Jc h.1 d hd)) (λd hd=>Hv (Jc h.2 d hd))
  ·simp only[BY]at h
   exact .mp (λd hd=>Hv (Jc h.1 d hd)) (λd hd=>Hv (Jc h.2 d hd))
  ·exact .ifc (Hv h)
  ·cases h
def Ko {α β:Type}(f:α->Option β):List α->Option (List β)
 | []=>some []
 |x::l=>match f x with
  |some y=>match Ko f l with
   |some r=>some (y::r)
   |none=>none
  |none=>none
theorem Ni {α β:Type}{f:α->Option β}:∀ {l:List α} {r:List β},Ko f l=some r->l.length=r.length/\∀(i:Nat) (x:α) (y:β),l[i]?=some x->r[i]?=some y->f x=some y
 | [],r,h=>by simp only[Ko,BP]at h;subst h;simp
 |x::l,r,h=>by
  simp only[Ko]at h;split at h<;>try(cases h;done)
  rename_i y hy;split at h<;>try(cases h;done)
  rename_i r' hr;cases h;obtain⟨h1,h2⟩:=Ni hr;refine⟨by simp[h1],λi a b ha hb=>?_⟩;cases i with
  |zero=>simp at ha hb;subst ha hb;exact hy
  |succ i=>exact h2 i a b (by simpa using ha) (by simpa using hb)
theorem Rf {α β:Type}{f:α->Option β}{l:List α}{r:List β}(h:Ko f l=some r):∀y∈r,∃x∈l,f x=some y:=λy hy=>by
 obtain⟨h1,h2⟩:=Ni h;obtain⟨i,hi,rfl⟩:=ND hy;exact⟨l[i]'(by omega),List.getElem_mem _,h2 i _ _ (Ct) (By hi)⟩
def V2 (f:D->Option D)(d:D):Option D:=match d with
 | .agg cs=>match Ko f cs with
  |some cs'=>some (.agg cs')
  |none=>none
 |d=>match f d with
  |some d'=>match KO d' with
   |true=>some d'
   |false=>none
  |none=>none
def Og:Nat->Hp->D->Option D
 | 0,_,_=>none
 |n+1,H,d=>match d with
  | .agg l=>match Ko (Og n H) l with
   |some l'=>some (.agg l')
   |none=>none
  | .tup l=>match Ko (Og n H) l with
   |some l'=>some (.tup l')
   |none=>none
  | .osl k g sz i len=>match Hp.get H k with
   |some e=>match Nat.beq g e.g&&Nat.beq sz e.sz&&Nat.ble (i+len) e.es.length with
    |true=>match Ko (V2 (Og n H)) ((e.es.drop i).take len)with
     |some es'=>some (.sl false sz es')
     |none=>none
    |false=>none
   |none=>none
  |d=>match Hx 20 d with
   |true=>some d
   |false=>none
theorem Xm {d:D}(h:KO d=true):d.cells=[d]:=by cases d<;>first|rfl|cases h
theorem US {H:Hp}{f:D->Option D}(hf:∀d d',f d=some d'->Fz H [] d d'/\CJ d'){d d':D}(h:V2 f d=some d'):
  d'.cells.length=d.cells.length/\(∀(q:Nat) (c c':D),d.cells[q]?=some c->d'.cells[q]?=some c'->Fz H [] c c')/\∀c∈d'.cells,CJ c:=by
 unfold V2 at h;split at h
 ·rename_i cs
  split at h<;>try(cases h;done)
  rename_i cs' hm;cases h;obtain⟨h1,h2⟩:=Ni hm;refine⟨h1.symm,λq c c' hc hc'=>(hf _ _ (h2 q c c' hc hc')).1,λc hc=>?_⟩;obtain⟨x,_,hx⟩:=Rf hm c hc;exact(hf _ _ hx).2
 ·rename_i hne
  split at h<;>try(cases h;done)
  rename_i d1 hd;split at h<;>try(cases h;done)
  rename_i hn;cases h;have hc:d.cells=[d]:=Xm (by cases d<;>first|rfl|exact Ak rfl (hne _));rw[hc,Xm hn];refine⟨rfl,λq c c' h1 h2=>?_,λc hc=>?_⟩
  ·cases q with
   |zero=>simp at h1 h2;subst h1 h2;exact(hf _ _ hd).1
   |succ q=>simp at h1
  ·simp at hc;subst hc;exact(hf _ _ hd).2
theorem LV {H:Hp}:∀ {n:Nat} {d d':D},Og n H d=some d'->Fz H [] d d'/\CJ d'
 | 0,_,_,h=>by cases h
 |n+1,d,d',h=>by
  simp only[Og]at h;split at h
  ·split at h<;>try(cases h;done)
   rename_i hm;cases h;obtain⟨h1,h2⟩:=Ni hm;refine⟨.agg h1 λi a b ha hb=>(LV (h2 i a b ha hb)).1,.agg λc hc=>?_⟩;obtain⟨x,_,hx⟩:=Rf hm c hc;exact(LV hx).2
  ·split at h<;>try(cases h;done)
   rename_i hm;cases h;obtain⟨h1,h2⟩:=Ni hm;refine⟨.tup h1 λi a b ha hb=>(LV (h2 i a b ha hb)).1,.tup λc hc=>?_⟩;obtain⟨x,_,hx⟩:=Rf hm c hc;exact(LV hx).2
  ·split at h<;>try(cases h;done)
   rename_i k g sz i len _ e he;split at h<;>try(cases h;done)
   rename_i hb;split at h<;>try(cases h;done)
   rename_i es' hm;cases h;simp only[BY]at hb;obtain⟨⟨b1,b2⟩,b3⟩:=hb;have b3:=Dx b3;obtain⟨h1,h2⟩:=Ni hm;have hget:∀(j:Nat) (x:D),j<len->e.es[i+j]?=some x->((e.es.drop i).take len)[j]?=some x:=λj x hj hx=>by
    rw[FW,AH hj,IC];exact hx
   have hlen:es'.length=len:=by rw[<-h1];simp;omega
   refine⟨.osl he rfl (CG b1) (CG b2) b3 hlen (λj x y hx hy=>?_) (λj x y q c c' hx hy hc hc'=>?_),.sl λe' he' c hc=>?_⟩
   ·have hj:j<len:=by rw[<-hlen];exact(BT.1 hy).1
    exact(US (λ_ _ h=>LV h) (h2 j x y (hget j x hj hx) hy)).1
   ·have hj:j<len:=by rw[<-hlen];exact(BT.1 hy).1
    exact(US (λ_ _ h=>LV h) (h2 j x y (hget j x hj hx) hy)).2.1 q c c' hc hc'
   ·obtain⟨x,_,hx⟩:=Rf hm e' he'
    exact(US (λ_ _ h=>LV h) hx).2.2 c hc
  ·split at h<;>try(cases h;done)
   rename_i hp;cases h;exact⟨.refl _,Hv hp⟩
structure WR where
 iw:Nat
 ia:Option Nat
 e:At
 e':At
 R:Hp
def WR.tail (W:WR)(L:Array Bool):Hp:=if L.getD W.iw false=true then W.e'::W.R else match W.ia with
 |none=>W.e::W.R
 |some ia=>if L.getD ia false=true then W.e::W.R else W.R
def WR.start (W:WR):Hp:=match W.ia with
 |none=>W.e::W.R
 |some _=>W.R
theorem kO {W:WR}{L:Array Bool}(h:Ls L W.iw):W.tail L=W.e'::W.R:=AH h
section
variable {C:BA} {F:AY} {ops:Array Oper}
def I4 (C:BA)(F:AY)(ops:Array Oper)(W:WR)(g:Nat)(env:Ao)(o:Oper)(d:D):Prop:=
 ∀(He:Hp) (ρ:Lk) (a:Act) (w:World),Al C F ρ (W.e::He) w->(∀x∈W.R,x∈He)->(∀k,ρ k g=none)->(∀x∈W.e::He,x.g≠g) ->
  (∀t∈o.looksAt ops,AU ρ (AN F.X ρ (W.e::He)) w (env.get t) (a.tmps.getD t undef)) ->
  Region.wanted o (yielded ops a.tmps)=true/\∃v ρ' w',((execOp a.eval o).run C.P w=.ok (.value v) w'\/((execOp a.eval o).run C.P w=.ok .skip w'/\v=undef)) /\
   Al C F ρ' (W.e'::He) w'/\BZ ρ (AN F.X ρ (W.e::He)) w ρ' (AN F.X ρ' (W.e'::He)) w'/\(∀k g',g'≠g->ρ' k g'=ρ k g')/\AU ρ' (AN F.X ρ' (W.e'::He)) w' d v
theorem s7 {l:List CE}(hn:(l.map (·.i)).Nodup){a b:CE}(ha:a∈l)(hb:b∈l)(he:a.i=b.i):a=b:=by
 induction l with
 |nil=>simp at ha
 |cons x l ih=>
  rw[Ci,List.nodup_cons]at hn;rcases A8.1 ha with h1|h1
  ·rcases A8.1 hb with h2|h2
   ·rw[h1,h2]
   ·exact Ak (Bx.2 ⟨b,h2,by rw[<-he,h1]⟩) hn.1
  ·rcases A8.1 hb with h2|h2
   ·exact Ak (Bx.2 ⟨a,h1,by rw[he,h2]⟩) hn.1
   ·exact ih hn.2 h1 h2
def OK (C:BA)(F:AY)(ops:Array Oper)(W:WR)(g:Nat)(env:Ao)(r:CE):Prop:=
 (r.i≠W.iw/\W.ia≠some r.i/\((W.ia=none/\EC ops W.iw r.i/\CC C F ops (W.e::W.R) g env r.o r.d r.ne)\/CC C F ops W.R g env r.o r.d r.ne))\/(r.i=W.iw/\W.ia≠some r.i/\r.ne=none/\I4 C F ops W g env r.o r.d) \/
  (r.i≠W.iw/\W.ia=some r.i/\r.ne=none/\CC C F ops W.R g env r.o r.d (some W.e))
theorem OK.gen {W:WR}{g:Nat}{env:Ao}{r:CE}(h:OK C F ops W g env r):∀e,r.ne=some e->e.g=g:=by
 rcases h with⟨_,_,⟨_,_,h⟩|h⟩|⟨_,_,h,_⟩|⟨_,_,h,_⟩
 ·exact h.1
 ·exact h.1
 ·intro e he;rw[h]at he;cases he
 ·intro e he;rw[h]at he;cases he
theorem DI.nextG {H H':Hp}{n:Nat}{env:Ao}{A B:List CE}{r:CE}{L:Array Bool}{a:Act}{w:World}{ρ:Lk}{He:Hp}(h:DI C F H n env (A++r::B) L a w ρ He)(hi:r.i<L.size)(hn:¬Ls L r.i)
  (hnd:((A++r::B).map (·.i)).Nodup) (hdst:(A++r::B).Pairwise (λr r'=>∀t,r.o.dst=some t->r'.o.dst≠some t)) (hok:Df F.nt r.o=true) {v:Value} {ρ':Lk} {w':World} {He':Hp}
  (pm:Al C F ρ' He' w') (px:BZ ρ (AN F.X ρ He) w ρ' (AN F.X ρ' He') w') (pf:∀k g',g'≠n+r.i->ρ' k g'=ρ k g') (pr:AU ρ' (AN F.X ρ' He') w' r.d v)
  (pp:He'.Perm ((A++r::B).filterMap (λr'=>if(L.setIfInBounds r.i true).getD r'.i false then r'.ne else none)++H')):
  DI C F H' n env (A++r::B) (L.setIfInBounds r.i true) (a.put r.o.dst v) w' ρ' He':=by
 have hset:∀j,Ls (L.setIfInBounds r.i true) j↔j=r.i\/Ls L j:=λj=>Ls.set hi
 have hne:∀r'∈A++B,r'.i≠r.i:=by
  simp only[DN,Ci]at hnd;intro r' hr' he;rw[EQ,List.nodup_cons]at hnd;rcases Bl.1 hr' with hr'|hr'
  ·exact hnd.2.2 r'.i (Bx.2 ⟨r',hr',rfl⟩) r.i (by simp) he
  ·exact hnd.2.1.1 (Bx.2 ⟨r',hr',he⟩)
 have hput:∀t,(a.put r.o.dst v).tmps.getD t undef=if r.o.dst=some t then v else a.tmps.getD t undef:=by
  intro t;cases hd:r.o.dst with
  |none=>simp[Act.put]
  |some k=>
   have hk:k<a.tmps.size:=by
    rw[h.nt];unfold Df at hok;rw[hd]at hok;exact Nat.blt_eq.mp hok
   show(a.tmps.setIfInBounds k v).getD t undef=_;rw[Aw,Io]
   by_cases hkt:k=t
   ·subst hkt;simp[hk]
   ·rw[AG hkt,AG (by simpa using hkt),<-Aw]
 refine⟨pm,pp,λr' hr' hl t ht=>?_,λt ht=>?_,λk g hg hk=>?_,?_,?_⟩
 ·rw[hput]
  by_cases hrr:r'=r
  ·subst hrr;rw[AH ht];exact pr
  ·have hr2:r'∈A++B:=by
    rcases Bl.1 hr' with h|h
    ·simp[h]
    ·rcases A8.1 h with h|h
     ·exact Ak h hrr
     ·simp[h]
   have hl2:=((hset r'.i).1 hl).resolve_left (hne r' hr2);rw[AG]
   ·exact(h.reps r' hr' hl2 t ht).mono px
   ·intro hrt
    rw[Jt,DR]at hdst;rcases Bl.1 hr2 with h|h
    ·exact hdst.2.2 r' h r (by simp) t ht hrt
    ·exact hdst.2.1.1 r' h t hrt ht
 ·rw[hput,AG (ht r (by simp) ((hset r.i).2 (.inl rfl)))]
  exact(h.old t λr' hr' hl=>ht r' hr' ((hset r'.i).2 (.inr hl))).mono px
 ·by_cases hgr:g=n+r.i
  ·exact⟨r,by simp,(hset r.i).2 (.inl rfl),hgr⟩
  ·rw[pf k g hgr]at hk
   obtain⟨r',h1,h2,h3⟩:=h.fresh k g hg hk;exact⟨r',h1,(hset r'.i).2 (.inr h2),h3⟩
 ·cases r.o.dst<;>simp[Act.put,h.nt]
 ·cases r.o.dst<;>simp[Act.put,h.dfr]
theorem lY {W:WR}{Q:Exit->Act->World->Prop}{n:Nat}{env:Ao}{rs:List CE}{suf:List Nat}(ho:Mt ops rs suf)(hiw:W.iw<ops.size)(hwg:W.e'.g=W.e.g\/W.e'.g=n+W.iw)(hgen:∀e∈W.R,e.g<n)(hge:W.ia=none->W.e.g<n)(hga:∀ia,W.ia=some ia->W.e.g=n+ia/\EC ops W.iw ia)(hd:∀r∈rs,Df F.nt r.o=true)
  (hst:∀A r B,rs=A++r::B->ops[r.i]?=some r.o/\OK C F ops W (n+r.i) (E2 A env) r)
  (hend:∀(L:Array Bool) (a:Act) (w:World) (ρ:Lk) (He:Hp),L.size=ops.size->(∀r∈rs,Ls L r.i)->DI C F (W.e'::W.R) n env rs L a w ρ He->wpOps C.P ops Q suf a w):
  (hw:∀ {L:Array Bool},(∀r∈rs,Ls L r.i)->Ls L W.iw)->∀(fuel:Nat) (L:Array Bool) (a:Act) (w:World) (ρ:Lk) (He:Hp),L.size=ops.size->((rs.map (·.i)++suf).filter (λi=>!L.getD i false)).length<=fuel->Cl ops L->(∀i∈suf,¬Ls L i) ->
   DI C F (W.tail L) n env rs L a w ρ He->wpAny C.P .any ops Q fuel L a w:=by
 intro hw fuel
 induction fuel with
 |zero=>
  intro L a w ρ He hL hf hc hs hi;have h0:(rs.map (·.i)++suf).filter (λi=>!L.getD i false)=[]:=FT (by omega);have hall:∀r∈rs,Ls L r.i:=λr hr=>by
   have:=List.filter_eq_nil_iff.1 h0 r.i (by simp;exact .inl ⟨r,hr,rfl⟩)
   simpa[Ls]using this
  have hsuf:suf=[]:=by
   apply List.eq_nil_iff_forall_not_mem.2;intro i hi2
   have:=List.filter_eq_nil_iff.1 h0 i (by simp[hi2])
   exact hs i hi2 (by simpa[Ls]using this)
  subst hsuf;refine MF [] 0 L a w hL (An _) (λi hi2=>⟨λ_=>by simp,λ_=>?_⟩) .nil (λA i B h=>by cases A<;>simp at h) (by simp) hc (hend L a w ρ He hL hall (by have h0:=hi;rw[kO (hw hall)]at h0;exact h0))
  have:=ho.all i hi2
  simp at this;obtain⟨r,hr,rfl⟩:=this;exact hall r hr
 |succ fuel ih=>
  intro L a w ρ He hL hf hc hs hi
  by_cases hall:∀r∈rs,Ls L r.i
  ·refine MF suf (fuel+1) L a w hL ?_ (λi hi2=>?_) ?_ (λA i B hAB=>⟨λj hj=>?_,λj hj=>ho.suf A i B hAB j (by simp[hj])⟩) (λi hi2=>ho.lt i (by simp[hi2])) hc (hend L a w ρ He hL hall (by have h0:=hi;rw[kO (hw hall)]at h0;exact h0))
   ·refine BU ?_ hf
    rw[List.filter_append,Be];rw[(List.filter_eq_self (l:=suf)).2 λi hi2=>by have:=hs i hi2;unfold Ls at this;simpa using this];omega
   ·constructor
    ·intro h1 h2;exact hs i h2 h1
    ·intro h1
     have:=ho.all i hi2
     rcases Bl.1 this with h|h
     ·obtain⟨r,hr,rfl⟩:=Bx.1 h;exact hall r hr
     ·exact Ak h h1
   ·exact(EQ.1 ho.nodup).2.1
   ·have hA:=ho.first (rs.map (·.i)++A) i B (by simp[hAB]) j hj
    refine⟨ho.lt j (by rw[hAB];rcases Bl.1 hA with h|h<;>simp[h]),λhB=>?_⟩;have hnd:=ho.nodup;rw[hAB,<-Dh,EQ]at hnd;exact hnd.2.2 j hA j hB rfl
  ·have hnot:∃r∈rs,¬Ls L r.i:=by
    apply DF;intro hn;exact hall λr hr=>DF λh=>hn ⟨r,hr,h⟩
   have hLt:∀j,j<ops.size->(L.getD j true=true↔Ls L j):=λj hj=>by
    unfold Ls;rw[Aw,Aw,HN];simp
   have hsome:Region.ready .any ops L≠[]:=by
    obtain⟨r0,hr0,hn0⟩:=hnot
    have:∀X:List CE,∀Y,rs=X++Y->(∃r∈Y,¬Ls L r.i)->(∀r∈X,Ls L r.i)->∃A r B,rs=A++r::B/\¬Ls L r.i/\∀r∈A,Ls L r.i:=by
     intro X Y
     induction Y generalizing X with
     |nil=>rintro _ ⟨r,hr,_⟩ _;simp at hr
     |cons y Y ihY=>
      intro hXY hex hX
      by_cases hy:Ls L y.i
      ·obtain⟨r,hr,hrn⟩:=hex
       rcases A8.1 hr with rfl|hr
       ·exact Ak hy hrn
       ·exact ihY (X++[y]) (by simp[hXY]) ⟨r,hr,hrn⟩ (λr hr=>by
         rcases Bl.1 hr with h|h
         ·exact hX r h
         ·simp at h;subst h;exact hy)
      ·exact⟨X,y,Y,hXY,hy,hX⟩
    obtain⟨A,r,B,h1,h2,h3⟩:=this [] rs rfl ⟨r0,hr0,hn0⟩ (by simp);intro hnil;have hrlt:=ho.lt r.i (by rw[h1];simp)
    have:r.i∈Region.ready .any ops L:=by
     rw[FO];refine⟨hrlt,?_,λj hj=>?_⟩
     ·cases hb:L.getD r.i true with
      |false=>rfl
      |true=>exact Ak ((hLt r.i hrlt).1 hb) h2
     ·have:=ho.first (A.map (·.i)) r.i (B.map (·.i)++suf) (by rw[h1];simp) j hj
      obtain⟨r',hr',rfl⟩:=Bx.1 this;exact h3 r' hr'
    rw[hnil]at this;simp at this
   refine⟨λh0=>Ak h0 hsome,λi hir=>?_⟩;obtain⟨hilt,hin,hid⟩:=FO.1 hir;have hnL:¬Ls L i:=λh=>by rw[(hLt i hilt).2 h]at hin;cases hin
   have hpre:i∈rs.map (·.i):=by
    rcases Bl.1 (ho.all i hilt)with h|h
    ·exact h
    ·obtain⟨A,B,hAB⟩:=EY h
     obtain⟨r0,hr0,hn0⟩:=hnot
     have:=F3 hL hc (ho.suf A i B hAB r0.i (HK _ (Bx.2 ⟨r0,hr0,rfl⟩))) hid
     exact Ak this hn0
   obtain⟨r,hr,rfl⟩:=Bx.1 hpre;obtain⟨A,B,hAB⟩:=EY hr;obtain⟨hor,hstr⟩:=hst A r B hAB;have hset:∀j,Ls (L.setIfInBounds r.i true) j↔j=r.i\/Ls L j:=λj=>Ls.set (by omega)
   have hndr:(rs.map (·.i)).Nodup:=(EQ.1 ho.nodup).1;have hgt:∀e∈W.tail L,(e∈W.R\/(e=W.e/\∀ia,W.ia=some ia->Ls L ia)\/(e=W.e'/\Ls L W.iw)):=λe he=>by
    unfold WR.tail at he
    by_cases hwl:L.getD W.iw false=true
    ·rw[AH hwl]at he
     rcases A8.1 he with rfl|he
     ·exact .inr (.inr ⟨rfl,hwl⟩)
     ·exact .inl he
    ·rw[AG hwl]at he
     cases hia:W.ia with
     |none=>
      rw[hia]at he;rcases A8.1 he with rfl|he
      ·exact .inr (.inl ⟨rfl,by simp⟩)
      ·exact .inl he
     |some ia=>
      rw[hia]at he;dsimp only at he
      by_cases hal:L.getD ia false=true
      ·rw[AH hal]at he
       rcases A8.1 he with rfl|he
       ·exact .inr (.inl ⟨rfl,λj hj=>by cases hj;exact hal⟩)
       ·exact .inl he
      ·rw[AG hal]at he
       exact .inl he
   have hfr:∀k,ρ k (n+r.i)=none:=λk=>by
    apply DF;intro hk;obtain⟨r',h1,h2,h3⟩:=hi.fresh k (n+r.i) (by omega) hk
    have:r'.i=r.i:=by omega
    rw[this]at h2;exact hnL h2
   have hne:∀e∈He,e.g≠n+r.i:=λe he hg=>by
    rcases Bl.1 (hi.perm.mem_iff.1 he)with h|h
    ·obtain⟨r',h1,h2⟩:=List.mem_filterMap.1 h
     split at h2
     ·rename_i hl
      obtain⟨A',B',hAB'⟩:=EY h1
      have:=(hst A' r' B' hAB').2.gen e h2
      have:r'.i=r.i:=by omega
      rw[this]at hl;exact hnL hl
     ·cases h2
    ·have hE:(∀ia,W.ia=some ia->Ls L ia)->W.e.g≠n+r.i:=λhal hg=>by
      cases hia:W.ia with
      |none=>have:=hge hia;omega
      |some ia=>
       have h1:=(hga ia hia).1
       have:ia=r.i:=by omega
       rw[<-this]at hnL;exact hnL (hal ia hia)
     rcases hgt e h with h|⟨rfl,hal⟩|⟨rfl,hl⟩
     ·have:=hgen e h;omega
     ·exact hE hal hg
     ·rcases hwg with h'|h'
      ·refine hE (λia hia=>?_) (by omega)
       refine F3 hL hc (hga ia hia).2 λk hk=>?_
       have hwl':Ls L W.iw:=hl;exact hc W.iw ((hLt W.iw hiw).2 hwl') hiw k hk
      ·have:W.iw=r.i:=by omega
       rw[this]at hl;exact hnL hl
   have go:∀(a':Act) (w':World) (ρ':Lk) (He':Hp),DI C F (W.tail (L.setIfInBounds r.i true)) n env rs (L.setIfInBounds r.i true) a' w' ρ' He'->wpAny C.P .any ops Q fuel (L.setIfInBounds r.i true) a' w':=by
    intro a' w' ρ' He' hn';refine ih _ _ _ ρ' He' (by simp[hL]) ?_ ?_ (λj hj=>?_) hn'
    ·have:((rs.map (·.i)++suf).filter (λi=>!(L.setIfInBounds r.i true).getD i false)).length<((rs.map (·.i)++suf).filter (λi=>!L.getD i false)).length:=by
      have sub:(rs.map (·.i)++suf).filter (λi=>!(L.setIfInBounds r.i true).getD i false)=((rs.map (·.i)++suf).filter (λi=>!L.getD i false)).filter (λi=>!Nat.beq i r.i):=by
       rw[List.filter_filter];apply List.filter_congr;intro x hx;have h1:=hset x;unfold Ls at h1
       by_cases hxr:x=r.i
       ·subst hxr
        have:(L.setIfInBounds r.i true).getD r.i false=true:=h1.2 (.inl rfl)
        simp[this]
       ·have hb:Nat.beq x r.i=false:=by
         cases hb:Nat.beq x r.i with
         |false=>rfl
         |true=>exact Ak (CG hb) hxr
        rw[hb]
        by_cases hlx:L.getD x false=true
        ·rw[h1.2 (.inr hlx),hlx];rfl
        ·have:¬(L.setIfInBounds r.i true).getD x false=true:=λh=>hlx ((h1.1 h).resolve_left hxr)
         simp only[Bool.not_eq_true]at this hlx;rw[this,hlx];rfl
      rw[sub];apply List.length_filter_lt_length_iff_exists.2;exact⟨r.i,by rw[List.mem_filter];exact⟨by simp;exact .inl ⟨r,hr,rfl⟩,by unfold Ls at hnL;simpa using hnL⟩,by simp⟩
     omega
    ·intro k hk2 hks x hx
     have hk3:Ls (L.setIfInBounds r.i true) k:=by
      unfold Ls;rw[Aw,B9 (by simp;omega)]at hk2⊢;simpa using hk2
     show Ls _ x;rw[hset];rcases(hset k).1 hk3 with rfl|hk3
     ·exact .inr (hid x hx)
     ·exact .inr (hc k ((hLt k hks).2 hk3) hks x hx)
    ·rw[hset]
     rintro(rfl|h)
     ·have hnd:=ho.nodup
      rw[EQ]at hnd;exact hnd.2.2 r.i (Bx.2 ⟨r,hr,rfl⟩) r.i hj rfl
     ·exact hs j hj h
   have hdst:=ho.dst;rw[hAB]at hdst hndr;have keep:∀ {α:Type} (j:Nat) (x y:α),j≠r.i->(if(L.setIfInBounds r.i true).getD j false=true then x else y)=(if L.getD j false=true then x else y):=λj x y hj=>by
    have:=hset j
    unfold Ls at this
    by_cases hl:L.getD j false=true
    ·rw[AH hl,AH (this.2 (.inr hl))]
    ·rw[AG hl,AG λh=>hl ((this.1 h).resolve_left hj)]
   have wset:r.i≠W.iw->W.ia≠some r.i->W.tail (L.setIfInBounds r.i true)=W.tail L:=λhr hr2=>by
    unfold WR.tail;rw[keep W.iw _ _ (Ne.symm hr)];cases hia:W.ia with
    |none=>rfl
    |some ia=>
     dsimp only;rw[keep ia _ _ λh=>hr2 (by rw[hia,h])]
   have next:r.i≠W.iw->W.ia≠some r.i->∀v ρ' w',Jl C F He ρ w (n+r.i) r.d r.ne v ρ' w'->wpAny C.P .any ops Q fuel (L.setIfInBounds r.i true) (a.put r.o.dst v) w':=by
    intro hriw hria v ρ' w' p;have hi':=hi;rw[hAB]at hi';have hn':=DI.next hi' (by omega) hnL hndr hdst (hd r hr) p;rw[<-hAB,<-wset hriw hria]at hn';exact go _ _ _ _ hn'
   unfold wpOp;simp only[hor];have hR:∀e∈W.R,e∈He:=λe he=>hi.perm.mem_iff.2 (by
    refine List.mem_append_right _ ?_;unfold WR.tail;cases W.ia<;>dsimp only<;>(repeat' split)<;>simp[he])
   have samefm:r.ne=none->∀ {fm:List At},(A++r::B).filterMap (λr'=>if L.getD r'.i false then r'.ne else none)=fm ->
     (A++r::B).filterMap (λr'=>if(L.setIfInBounds r.i true).getD r'.i false then r'.ne else none)=fm:=λhnone fm hfm=>by
    rw[<-hfm];refine KA λr' hr'=>?_
    by_cases hrr:r'.i=r.i
    ·have:r'=r:=s7 hndr hr' (by simp) hrr
     subst this;rw[hnone];simp
    ·exact keep r'.i _ _ hrr
   rcases hstr with⟨hriw,hria,hstd⟩|⟨hriw,hria,hnone,hstw⟩|⟨hriw,hria,hnone,hstd⟩
   ·have hgo:∀Hr:Hp,(∀e∈Hr,e∈He)->CC C F ops Hr (n+r.i) (E2 A env) r.o r.d r.ne->_:=λHr hsub hs=>hs.2 He ρ a w hi.mem hsub hfr hne (hi.look ho hL hc hAB hir)
    have fin:_:=(show(Region.wanted r.o (yielded ops a.tmps)=false/\r.ne=none/\AU ρ (AN F.X ρ He) w r.d undef)\/(Region.wanted r.o (yielded ops a.tmps)=true/\jd C F He ρ w (n+r.i) r.d r.ne r.o a)from by
     rcases hstd with⟨hia,hre,hs⟩|hs
     ·refine hgo _ (λe he=>hi.perm.mem_iff.2 ?_) hs
      have hnw:¬L.getD W.iw false=true:=λhwl=>hnL (by
       refine F3 hL hc hre λk hk=>?_
       have hwl':Ls L W.iw:=hwl;exact hc W.iw ((hLt W.iw hiw).2 hwl') hiw k hk)
      unfold WR.tail;rw[AG hnw,hia];rcases A8.1 he with rfl|he
      ·simp
      ·simp[he]
     ·exact hgo _ hR hs)
    rcases fin with⟨hw0,hn0,hrep⟩|⟨hw0,hout⟩
    ·rw[AG (by rw[hw0];simp)]
     exact next hriw hria undef ρ w ⟨by rw[hn0];exact hi.mem,by rw[hn0];exact .refl _ _ _,λ_ _ _=>rfl,by rw[hn0];exact hrep⟩
    ·rw[AH hw0]
     refine .inl ?_;unfold Oper.wp;rcases hout with⟨v,ρ',w',h1,h2⟩|⟨f,vs,h1,h2⟩
     ·rw[h1];exact next hriw hria v ρ' w' h2
     ·rw[h1]
      refine h2.mono ?_;rintro e w' ⟨v,rfl,ρ',h3⟩;exact next hriw hria v ρ' w' h3
   ·
    have hnw:¬L.getD W.iw false=true:=λh=>hnL (by rw[hriw];exact h)
    generalize hfm:rs.filterMap (λr'=>if L.getD r'.i false then r'.ne else none)=fm at*;have hperm:He.Perm (W.e::(fm++W.R)):=by
     have h0:=hi.perm;have htl:W.tail L=W.e::W.R:=by
      unfold WR.tail;rw[AG hnw];cases hia:W.ia with
      |none=>rfl
      |some ia=>
       dsimp only;have hre:=(hga ia hia).2;rw[<-hriw]at hre;exact AH (F3 hL hc hre hid)
     rw[htl,hfm]at h0;exact h0.trans Hb
    have m1:=hi.mem.perm hperm;have ho1:=AN.perm (X:=F.X) (ρ:=ρ) hperm;obtain⟨hw0,v,ρ',w',hrun,m2,x2,far2,rep2⟩:=hstw (fm++W.R) ρ a w m1 (λe he=>by simp[he]) hfr (λe he=>hne e (hperm.mem_iff.2 he)) (λt ht=>by
     rw[<-ho1];exact hi.look ho hL hc hAB hir t ht)
    rw[<-ho1]at x2;have hi':=hi;rw[hAB]at hi' hfm;have nx:=DI.nextG (H':=W.e'::W.R) hi' (by omega) hnL hndr hdst (hd r hr) (v:=v) m2 x2 far2 rep2 (by
     rw[samefm hnone hfm];exact Hb.symm)
    have hwt:W.tail (L.setIfInBounds r.i true)=W.e'::W.R:=by
     exact AH ((hset W.iw).2 (.inl hriw.symm))
    rw[<-hAB,<-hwt]at nx;rw[AH hw0];refine .inl ?_;unfold Oper.wp;rcases hrun with hrun|⟨hrun,rfl⟩
    ·rw[hrun];exact go _ _ _ _ nx
    ·rw[hrun];exact go _ _ _ _ nx
   ·
    have htl:W.tail L=W.R:=by
     have hnw:¬L.getD W.iw false=true:=λhwl=>hnL (by
      refine F3 hL hc (hga r.i hria).2 λk hk=>?_
      have hwl':Ls L W.iw:=hwl;exact hc W.iw ((hLt W.iw hiw).2 hwl') hiw k hk)
     unfold WR.tail;rw[AG hnw,hria];exact AG hnL
    have hwt:W.tail (L.setIfInBounds r.i true)=W.e::W.R:=by
     have hnw:¬(L.setIfInBounds r.i true).getD W.iw false=true:=λhwl=>by
      rcases(hset W.iw).1 hwl with h|h
      ·exact hriw h.symm
      ·exact hnL (by
        refine F3 hL hc (hga r.i hria).2 λk hk=>?_
        exact hc W.iw ((hLt W.iw hiw).2 h) hiw k hk)
     unfold WR.tail;rw[AG hnw,hria];exact AH ((hset r.i).2 (.inl rfl))
    have nxt:∀v ρ' w',Jl C F He ρ w (n+r.i) r.d (some W.e) v ρ' w'->wpAny C.P .any ops Q fuel (L.setIfInBounds r.i true) (a.put r.o.dst v) w':=λv ρ' w' p=>by
     have hi':=hi;rw[hAB]at hi';have nx:=DI.nextG (H':=W.e::W.R) hi' (by omega) hnL hndr hdst (hd r hr) (v:=v) p.mem p.ext p.far p.rep (by
      rw[samefm hnone rfl];have h0:=hi'.perm;rw[htl]at h0;exact(List.Perm.cons W.e h0).trans Hb.symm)
     rw[<-hAB,<-hwt]at nx;exact go _ _ _ _ nx
    rcases hstd.2 He ρ a w hi.mem hR hfr hne (hi.look ho hL hc hAB hir)with⟨hw0,hn0,hrep⟩|⟨hw0,hout⟩
    ·cases hn0
    ·rw[AH hw0]
     refine .inl ?_;unfold Oper.wp;rcases hout with⟨v,ρ',w',h1,h2⟩|⟨f,vs,h1,h2⟩
     ·rw[h1];exact nxt v ρ' w' h2
     ·rw[h1]
      refine h2.mono ?_;rintro e w' ⟨v,rfl,ρ',h3⟩;exact nxt v ρ' w' h3
inductive JG (C:BA)(F:AY)(ops:Array Oper)(W:WR)(n:Nat):List Nat->Ao->Hp->Ao->Hp->Prop
 |nil (env:Ao) (N:Hp):JG C F ops W n [] env N env N
 |cons {i:Nat} {l:List Nat} {o:Oper} {d:D} {ne:Option At} {env env':Ao} {N N':Hp} (ho:ops[i]?=some o) (hs:OK C F ops W (n+i) env ⟨i,o,d,ne⟩)
   (h:JG C F ops W n l (Bi env o.dst d) (DE ne N) env' N'):JG C F ops W n (i::l) env N env' N'
theorem JG.recs {W:WR}{n:Nat}{l:List Nat}{env env':Ao}{N N':Hp}(h:JG C F ops W n l env N env' N'):
  ∃rs:List CE,rs.map (·.i)=l/\env'=E2 rs env/\N'=OH rs N /\
   ∀A r B,rs=A++r::B->ops[r.i]?=some r.o/\OK C F ops W (n+r.i) (E2 A env) r:=by
 induction h with
 |nil env N=>exact⟨[],rfl,rfl,rfl,λA r B h=>by cases A<;>simp at h⟩
 | @cons i l o d ne env env' N N' ho hs _ ih=>
  obtain⟨rs,h1,h2,h3,h4⟩:=ih;refine⟨⟨i,o,d,ne⟩::rs,by simp[h1],h2,h3,λA r B hr=>?_⟩;cases A with
  |nil=>
   simp only[FE,Fu]at hr;obtain⟨rfl,rfl⟩:=hr;exact⟨ho,hs⟩
  |cons r0 A=>
   simp only[E7,Fu]at hr;obtain⟨rfl,rfl⟩:=hr;exact h4 A r B rfl
theorem kH {W:WR}{s:St}{Q:Exit->St->Prop}{pre suf:List Nat}{envF:Ao}{N:Hp}(hc:HW ops pre suf=true)
  (hH:s.H.Perm W.start) (hga:∀ia,W.ia=some ia->W.e.g=s.n+ia/\EC ops W.iw ia/\ia∈pre) (hiw:W.iw∈pre) (hwg:W.e'.g=W.e.g\/W.e'.g=s.n+W.iw)
  (hpre:JG C F ops W s.n pre s.env [] envF N)
  (h:BL C F ops (suf.map λj=>ops.getD j default) ⟨envF,N++W.e'::W.R,s.n+ops.size⟩ (Q .normal)) (hd:ops.toList.all (Df F.nt)=true) (ρ:Lk) (a:Act) (w:World) (hs:Bu C F ρ s a w):
  wpAny C.P .any ops (K7 C F (Q .normal)) ops.size (Array.replicate ops.size false) a w.drew:=by
 obtain⟨rs,h1,h2,h3,h4⟩:=hpre.recs;have hor:∀r∈rs,ops[r.i]?=some r.o:=λr hr=>by
  obtain⟨A,B,hAB⟩:=EY hr;exact(h4 A r B hAB).1
 have ho:=Rh h1 hor hc;have hds:∀r∈rs,Df F.nt r.o=true:=λr hr=>by
  refine CW.1 hd r.o ?_
  have:=hor r hr
  exact IB.2 (Ik this)
 have hrep:∀j,(Array.replicate ops.size false).getD j false=false:=λj=>by
  rw[Aw];rw[Lw];split<;>rfl
 have hnL:∀j,¬Ls (Array.replicate ops.size false) j:=λj hj=>by unfold Ls at hj;rw[hrep]at hj;cases hj
 have hgen:∀e∈W.R,e.g<s.n:=λe he=>hs.gen e (hH.mem_iff.2 (by unfold WR.start;cases W.ia<;>simp[he]))
 have hge:W.ia=none->W.e.g<s.n:=λhia=>hs.gen _ (hH.mem_iff.2 (by unfold WR.start;rw[hia];simp))
 have hlw:=ho.lt W.iw (by rw[h1];simp[hiw]);have htl:W.tail (Array.replicate ops.size false)=W.start:=by
  unfold WR.tail WR.start;rw[AG (by rw[hrep];simp)];cases W.ia with
  |none=>rfl
  |some ia=>exact AG (by rw[hrep];simp)
 have hin:DI C F (W.tail (Array.replicate ops.size false)) s.n s.env rs (Array.replicate ops.size false) a w.drew ρ s.H:=by
  refine⟨hs.mem.drew,?_,λr _ hl=>Ak hl (hnL _),λt _=>(hs.env t).mono (.drew _ _ _),λk g hg hk=>Ak (hs.fresh k g hg) hk,hs.nt,hs.dfr⟩
  have:rs.filterMap (λr=>if(Array.replicate ops.size false).getD r.i false then r.ne else none)=[]:=by
   rw[TQ];intro r _;rw[hrep];rfl
  rw[this,htl];exact hH
 refine lY ho hlw hwg hgen hge (λia h=>⟨(hga ia h).1,(hga ia h).2.1⟩) hds h4 ?_ (λhall=>by
  rw[<-h1]at hiw;obtain⟨r,hr,he⟩:=Bx.1 hiw;rw[<-he];exact hall r hr) ops.size _ a w.drew ρ s.H (by simp) ?_ ?_ (λj _=>hnL j) hin
 ·intro L a' w' ρ' He hL hall hi
  have hN:He.Perm (N++W.e'::W.R):=by
   refine hi.perm.trans (List.Perm.append_right _ ?_);have e:rs.filterMap (λr=>if L.getD r.i false then r.ne else none)=rs.filterMap (·.ne):=KA λr hr=>by
    have:=hall r hr;unfold Ls at this;rw[this];rfl
   rw[e,h3]
   have:=MI rs []
   rw[Du]at this;exact this.symm
  refine h ?_ suf ?_ ρ' a' w' ⟨hi.mem.perm hN,?_,?_,λt=>?_,hi.nt,hi.dfr⟩
  ·rw[CW]
   intro o' ho';obtain⟨j,hj,rfl⟩:=Bx.1 ho';have hlt:=ho.lt j (by simp[hj]);refine CW.1 hd _ ?_;rw[Aw,B9 hlt];simp
  ·rw[List.map_map]
   refine L3 λj hj=>?_
   have hlt:=ho.lt j (by simp[hj]);simp[Aw,B9 hlt]
  ·intro k g hg
   apply DF;intro hk;obtain⟨r,hr,_,he⟩:=hi.fresh k g (by simp at hg;omega) hk
   have:=ho.lt r.i (by simp;exact .inl ⟨r,hr,rfl⟩)
   simp at hg;omega
  ·intro e he
   rcases Bl.1 he with he|he
   ·rw[h3]at he
    have he:=(MI rs []).mem_iff.1 he;rw[Du]at he;obtain⟨r,hr,hre⟩:=List.mem_filterMap.1 he;obtain⟨A,B,hAB⟩:=EY hr
    have:=(h4 A r B hAB).2.gen e hre
    have:=ho.lt r.i (by simp;exact .inl ⟨r,hr,rfl⟩)
    show e.g<s.n+ops.size;omega
   ·show e.g<s.n+ops.size
    rcases A8.1 he with rfl|he
    ·have hE:W.e.g<s.n+ops.size:=by
      cases hia:W.ia with
      |none=>have:=hge hia;omega
      |some ia=>
       obtain⟨q1,_,q3⟩:=hga ia hia
       have:=ho.lt ia (by rw[h1];simp[q3])
       omega
     rcases hwg with h|h<;>omega
    ·have:=hgen e he
     omega
  ·show AU ρ' (AN F.X ρ' (N++W.e'::W.R)) w' (envF.get t) _
   rw[<-AN.perm hN,h2]
   by_cases hw:∃r∈rs,r.o.dst=some t
   ·obtain⟨r,hr,hrd⟩:=hw
    rw[MW rs s.env t ho.dst r hr hrd];exact hi.reps r hr (hall r hr) t hrd
   ·rw[JY rs s.env t λr hr hrd=>hw ⟨r,hr,hrd⟩]
    exact hi.old t λr hr _ hrd=>hw ⟨r,hr,hrd⟩
 ·refine BU (List.length_filter_le _ _) ?_
  have hsub:∀(l:List Nat) (n:Nat),l.Nodup->(∀x∈l,x<n)->l.length<=n:=by
   intro l n
   induction n generalizing l with
   |zero=>intro _ h;cases l with
    |nil=>simp
    |cons x l=>exact Ak (h x (by simp)) (by omega)
   |succ n ihn=>
    intro hnd hlt;have h1:=ihn (l.erase n) (hnd.erase n) λx hx=>by
     have:=hlt x (List.mem_of_mem_erase hx)
     have:x≠n:=λh=>by subst h;exact(TS hnd) hx
     omega
    have:=List.length_erase (a:=n) (l:=l)
    split at this<;>omega
  exact hsub _ _ ho.nodup ho.lt
 ·intro k hk
  have:k<ops.size\/¬k<ops.size:=by omega
  rcases this with hlt|hlt
  ·rw[Aw,Lw,AH hlt]at hk;cases hk
  ·intro h;exact Ak h hlt
theorem oR {P:Program}{o:Oper}{a:Act}{R R':Exit->Act->World->Prop}{K K':Act->World->Prop}(hk:∀a w,K a w->K' a w)(h:∀e a w,R e a w->R' e a w):∀r,o.upon P a K R r->o.upon P a K' R' r:=λr hr=>by
 unfold Oper.upon at hr⊢;split at hr
 ·exact hk _ _ hr
 ·exact hk _ _ hr
 ·exact hk _ _ hr
 ·refine hr.mono ?_
  intro e w'' q;cases e with
  |returned v=>exact hk _ _ q
  |panicked c=>exact h _ _ _ q
  |outgrown=>obtain⟨a,w,q⟩:=q;exact⟨a,w,h _ _ _ q⟩
 ·exact λc cs=>by
   obtain⟨v,w',h1,h2⟩:=hr c cs;exact⟨v,w',hk _ _ h1,h2⟩
 ·exact h _ _ _ hr
 ·exact hr.elim
theorem Q2 {P:Program}{R R':Exit->Act->World->Prop}(h:∀e a w,R e a w->R' e a w):∀(fuel:Nat) (L:Array Bool) (a:Act) (w:World),wpAny P .any ops R fuel L a w->wpAny P .any ops R' fuel L a w
 | 0,L,a,w,hh=>⟨hh.1,h _ _ _ hh.2⟩
 |fuel+1,L,a,w,hh=>⟨λh0=>h _ _ _ (hh.1 h0),λi hi=>by
   have hq:=hh.2 i hi;unfold wpOp at hq⊢;split
   ·rename_i ho;simp only[ho]at hq;exact Q2 h _ _ _ _ hq
   ·rename_i o ho
    simp only[ho]at hq;split
    ·rename_i hw
     rw[AH hw]at hq;rcases hq with hq|⟨h1,a,w,h2⟩
     ·exact .inl (oR (λa w=>Q2 h _ _ a w) h _ hq)
     ·exact .inr ⟨h1,a,w,h _ _ _ h2⟩
    ·rename_i hw
     rw[AG hw]at hq;exact Q2 h _ _ _ _ hq⟩
theorem e1y {W:WR}{i:Nat}{s:St}{Q:Exit->St->Prop}{pre suf:List Nat}{envF:Ao}{N:Hp}(hm:C.P.follows .mixedOrders=true)(hc:HW ops pre suf=true)
  (hH:s.H.Perm W.start) (hga:∀ia,W.ia=some ia->W.e.g=s.n+ia/\EC ops W.iw ia/\ia∈pre) (hiw:W.iw∈pre) (hwg:W.e'.g=W.e.g\/W.e'.g=s.n+W.iw)
  (hpre:JG C F ops W s.n pre s.env [] envF N)
  (h:BL C F ops (suf.map λj=>ops.getD j default) ⟨envF,N++W.e'::W.R,s.n+ops.size⟩ (Q .normal)):Ok C F (.region i ops true) s Q:=λhd ρ a w hs=>by
 refine wp_region_any hm (Q2 (λe a w h=>?_) _ _ _ _ (kH hc hH hga hiw hwg hpre h hd ρ a w hs));obtain⟨rfl,s',ρ',h1,h2⟩:=h;exact⟨s',ρ',h1,h2⟩
theorem ni {tt:Nat->Option A7}{H:Hp}{g g':Operand->D}{op:Op}(h:∀x∈op.operands,g x=g' x):Fw tt H g op=Fw tt H g' op:=by
 cases op<;>simp only[Op.operands]at h<;>try rfl
 case store t x y=>simp only[Fw];rw[h x (by simp),h y (by simp)]
theorem qU {tt:Nat->Option A7}{e:At}{He:Hp}{g:Operand->D}{op:Op}{k:Nat}{e':At}{p:Prop}(h:Fw tt [e] g op=some (k,e',p)):
  Fw tt (e::He) g op=some (k,e',p)/\Hp.set (e::He) k e'=e'::He/\e'.g=e.g:=by
 unfold Fw at h;split at h<;>try(cases h;done)
 rename_i t x y;simp only[Fw];split at h<;>try(cases h;done)
 rename_i i hi
 try simp only[hi]
 split at h<;>try(cases h;done)
 rename_i h1
 try simp only[h1]
 split at h<;>try(cases h;done)
 rename_i e1 h2;have hb:Nat.beq e.k k=true/\e1=e:=by
  split at h<;>try(cases h;done)
  cases h;simp only[Hp.get]at h2;split at h2
  ·rename_i hb;cases h2;exact⟨hb,rfl⟩
  ·cases h2
 have hget:∀k0,Hp.get [e] k0=some e1->Hp.get (e::He) k0=some e1:=λk0 hk=>by
  simp only[Hp.get]at hk⊢;split at hk
  ·exact hk
  ·cases hk
 try rw[hget _ h2]
 split at h<;>try(cases h;done)
 rename_i h3;cases h;refine⟨by first|rfl|simp only[h3],?_,by rw[hb.2]⟩;simp only[Hp.set,hb.1]
theorem I4.store {W:WR}{g:Nat}{env:Ao}{o:Oper}{tt:Nat->Option A7}(htt:C3 C.P tt){k:Nat}{p:Prop}(hw:CP ops env o=some true)(he:Fw tt [W.e] (BI env) o.op=some (k,W.e',p))(hp:p):
  I4 C F ops W g env o (.prim (.tuple #[])):=λHe ρ a w m _ _ _ hr=>by
 refine⟨IN hr hw,?_⟩;obtain⟨g',h1,h2⟩:=Iw hr;rw[ni h1]at he;obtain⟨q1,q2,_⟩:=qU (He:=He) he;obtain⟨w',r1,r2,r3,_⟩:=Y7 (s:=⟨[],W.e::He,0⟩) htt m h2 q1 hp;simp only[q2]at r2 r3;exact⟨undef,ρ,w',.inr ⟨r1,rfl⟩,r2,r3,λ_ _ _=>rfl,.prim _⟩
theorem UO {tt:Nat->Option A7}{H:Hp}{n k:Nat}{g g':Operand->D}{op:Op}(h:∀x∈op.operands,g x=g' x):Eb tt H n k g op=Eb tt H n k g' op:=by
 unfold Eb;split
 ·rename_i args tys
  cases hargs:args.toList with
  |nil=>rfl
  |cons s r=>
   cases r with
   |nil=>rfl
   |cons x r=>
    cases r with
    |nil=>
     have hs:s∈args.toList:=by rw[hargs];simp
     have hx:x∈args.toList:=by rw[hargs];simp
     dsimp only;rw[h s (by simp[Op.operands,Call.operands];simpa using hs),h x (by simp[Op.operands,Call.operands];simpa using hx)]
    |cons=>rfl
 ·rfl
theorem bX {e e1:At}{k:Nat}{He:Hp}(h:Hp.get [e] k=some e1):e1=e/\Hp.get (e::He) k=some e/\Hp.del (e::He) k=He/\Hp.del [e] k=[]:=by
 simp only[Hp.get]at h;split at h
 ·rename_i hb
  cases h;refine⟨rfl,?_,?_,?_⟩
  ·simp only[Hp.get,hb]
  ·simp only[Hp.del,hb]
  ·simp only[Hp.del,hb]
 ·cases h
theorem oN {e:At}{He:Hp}{esz:Nat}{d:D}{r:List D×Prop}(h:Ii [e] esz d=some r):Ii (e::He) esz d=some r:=by
 unfold Ii at h⊢;split at h<;>try exact h
 split at h<;>try(cases h;done)
 rename_i h1;obtain⟨rfl,h2,_,_⟩:=bX (He:=He) h1;rw[h2];exact h
theorem Uj {tt:Nat->Option A7}{e e':At}{He:Hp}{n k:Nat}{g:Operand->D}{op:Op}{d:D}{p:Prop}(h:Eb tt [e] n k g op=some (d,[e'],p)):
  Eb tt (e::He) n k g op=some (d,e'::He,p)/\e'.g=n:=by
 unfold Eb at h⊢;split at h<;>try(cases h;done)
 split at h<;>try(cases h;done)
 rename_i h1
 try rw[h1]
 try dsimp only
 split at h<;>try(cases h;done)
 rename_i h2
 try rw[h2]
 try dsimp only
 split at h<;>try(cases h;done)
 rename_i h3
 try rw[h3]
 try dsimp only
 split at h<;>try(cases h;done)
 rename_i h4
 try rw[h4]
 try dsimp only
 split at h<;>try(cases h;done)
 rename_i h5
 try rw[h5]
 try dsimp only
 split at h<;>try(cases h;done)
 rename_i h6
 try rw[oN h6]
 try dsimp only
 split at h<;>try(cases h;done)
 ·rename_i h7
  try rw[h7]
  try dsimp only
  split at h<;>try(cases h;done)
  rename_i h8;obtain⟨rfl,a1,a2,a3⟩:=bX (He:=He) h8
  try rw[a1]
  try dsimp only
  rw[a3]at h;rw[a2];cases h;exact⟨rfl,rfl⟩
theorem I4.app {W:WR}{g:Nat}{env:Ao}{o:Oper}{tt:Nat->Option A7}(k:Nat)(htt:C3 C.P tt){d:D}{p:Prop}(hw:CP ops env o=some true)(he:Eb tt [W.e] g k (BI env) o.op=some (d,[W.e'],p))(hp:p):
  I4 C F ops W g env o d:=λHe ρ a w m _ fr hne hr=>by
 refine⟨IN hr hw,?_⟩;obtain⟨g',h1,h2⟩:=Iw hr;rw[UO h1]at he;obtain⟨q1,_⟩:=Uj (He:=He) he;obtain⟨v,ρ',w',r1,r2⟩:=Q7 htt m fr hne h2 q1 hp;exact⟨v,ρ',w',.inl r1,r2.mem,r2.ext,r2.far,r2.rep⟩
theorem Z7 {tt:Nat->Option A7}{e':At}{He:Hp}{n k:Nat}{g:Operand->D}{op:Op}{d:D}{p:Prop}(h:Eb tt [] n k g op=some (d,[e'],p)):
  Eb tt He n k g op=some (d,e'::He,p)/\e'.g=n:=by
 have src:∀ {esz:Nat} {x:D} {r:List D×Prop},Ii [] esz x=some r->Ii He esz x=some r:=λ{esz x r} h=>by
  unfold Ii at h⊢;split at h<;>try exact h
  split at h<;>try(cases h;done)
  rename_i h1;cases h1
 unfold Eb at h⊢;split at h<;>try(cases h;done)
 split at h<;>try(cases h;done)
 rename_i h1
 try rw[h1]
 try dsimp only
 split at h<;>try(cases h;done)
 rename_i h2
 try rw[h2]
 try dsimp only
 split at h<;>try(cases h;done)
 rename_i h3
 try rw[h3]
 try dsimp only
 split at h<;>try(cases h;done)
 rename_i h4
 try rw[h4]
 try dsimp only
 split at h<;>try(cases h;done)
 rename_i h5
 try rw[h5]
 try dsimp only
 split at h<;>try(cases h;done)
 rename_i h6
 try rw[src h6]
 try dsimp only
 split at h<;>try(cases h;done)
 cases h;exact⟨rfl,rfl⟩
theorem kP {H:Hp}{g:Nat}{env:Ao}{o:Oper}{e:At}{tt:Nat->Option A7}(k:Nat)(htt:C3 C.P tt){d:D}{p:Prop}(hw:CP ops env o=some true)(he:Eb tt [] g k (BI env) o.op=some (d,[e],p))(hp:p):
  CC C F ops H g env o d (some e):=by
 refine⟨λe' h=>by cases h;exact(Z7 (He:=[]) he).2,λHe ρ a w m _ fr hne hr=>.inr ⟨IN hr hw,.inl ?_⟩⟩;obtain⟨g',h1,h2⟩:=Iw hr;rw[UO h1]at he;obtain⟨q1,_⟩:=Z7 (He:=He) he;obtain⟨v,ρ',w',r1,r2⟩:=Q7 htt m fr hne h2 q1 hp;exact⟨v,ρ',w',r1,r2.mem,r2.ext,r2.far,r2.rep⟩
end
noncomputable section
structure FI where
 nt:Nat
 res:List ResultVar
 code:Code
structure EV where
 tt:Nat->Option A7
 xt:Nat->Option XI
 ft:Nat->Option FI
 np:Nat->Bool
 orc:Nat->List D->Option D
 mt:Nat->String->Option Nat
 nat:Nat->List D->Option D
structure Fk (C:BA)(X:EV):Prop where
 tt:C3 C.P X.tt
 xt:M1 C.P X.xt
 ft:∀f i,X.ft f=some i->∃fn,C.P.funcs[f]?=some fn/\fn.body=some i.code/\(fn.name == "runtime.NumGoroutine")=false/\Do fn.ntmps i.code=true/\fn.ntmps=i.nt/\fn.results.toList=i.res
 orc:∀f ds d,X.orc f ds=some d->AK C f ds d/\Ah ds
 mixed:C.P.follows .mixedOrders=true
 mt:∀t name f,X.mt t name=some f->∀v w,(method (C.P.types.size+Made.depth) t v name).run C.P w=.ok (f,v) w
 nat:∀f ds d,X.nat f ds=some d->LJ C f ds d
noncomputable def W8 (env:Ao)(t:Nat):D:=List.rec (motive:=λ_=>D) .any (λp _ ih=>Bool.rec (motive:=λ_=>D) ih p.2 (Nat.beq p.1 t)) env
theorem bW (t:Nat):∀env:Ao,W8 env t=env.get t
 | []=>rfl
 |(k,d)::r=>by
  show Bool.rec (motive:=λ_=>D) (W8 r t) d (Nat.beq k t)=_;rw[bW t r];simp only[Ao.get];cases Nat.beq k t<;>rfl
noncomputable def OP (env:Ao)(x:Operand):D:=match x with
 | .tmp t=>W8 env t
 | .const v=>LU v
 | .global g=>.prim (.pointer (some ⟨g,0,none⟩))
 | .func f=>.clo (.func f) [] []
theorem PZ (env:Ao):OP env=BI env:=by
 funext x
 cases x<;>first|rfl|exact bW _ _
noncomputable def S6 (i:Nat)(l:List Nat):Bool:=List.rec (motive:=λ_=>Bool) false (λj _ ih=>Bool.rec (motive:=λ_=>Bool) ih true (Nat.beq i j)) l
theorem bc (i:Nat):∀l:List Nat,S6 i l=Cq i l
 | []=>rfl
 |j::l=>by
  show Bool.rec (motive:=λ_=>Bool) (S6 i l) true (Nat.beq i j)=_;rw[bc i l];simp only[Cq];cases Nat.beq i j<;>rfl
abbrev JB:=Nat->List D->Hp->Nat->Option (D×Hp×Nat)
abbrev IY:=Nat->List D->Option D
def Km (b:Bool)(r:D×Hp×Nat):Option (D×Hp×Nat):=match b with
 |true=>some r
 |false=>none
def S4 (tt:Nat->Option A7)(g:Operand->D)(t:Nat)(x ix:Operand):Option D:=match tt t with
 |some i=>match i.ti with
  | .slice _ esz _ _=>match g ix with
   | .prim (.int _ j)=>match g x with
    | .sl _ sz es=>match Nat.beq sz esz&&decide (0<=j)with
     |true=>match es[j.toNat]? with
      |some d=>some (.pptr d)
      |none=>none
     |false=>none
    |_=>none
   |_=>none
  |_=>none
 |none=>none
def QF (X:EV)(g:Operand->D)(H:Hp)(n:Nat)(op:Op):Option (D×Hp×Nat):=match HL X.tt g op with
 |some (d,_)=>Km (NH X.tt g op) (d,H,n+1)
 |none=>none
def S2 (X:EV)(g:Operand->D)(H:Hp)(n:Nat)(op:Op):Option (D×Hp×Nat):=match Gp X.tt X.xt g op with
 |some (d,_)=>Km (Tf X.xt g op) (d,H,n+1)
 |none=>none
def LP {α:Type}(a:Option α)(b:Option α):Option α:=match a with
 |some x=>some x
 |none=>b
def jl (X:EV)(cl:JB)(g:Operand->D)(H:Hp)(n:Nat)(op:Op):Option (D×Hp×Nat):=match op with
 | .call ⟨.value fop,args,_⟩=>match g fop with
  | .clo (.func f) first captured=>match X.nat f (first++args.toList.map g++captured)with
   |some d=>some (d,H,n+1)
   |none=>cl f (first++args.toList.map g++captured) H n
  |_=>none
 | .call ⟨.invoke r name,args,_⟩=>match g r with
  | .ifc t d0=>match X.mt t name with
   |some f=>cl f (d0::args.toList.map g) H n
   |none=>none
  |_=>none
 | .call ⟨.builtin .append,_,_⟩=>match Eb X.tt H n n g op with
  |some (d,H',_)=>Km (Qi X.tt H g op) (d,H',n+1)
  |none=>none
 | .makeSlice _ _ _=>match Kz X.tt n n g op with
  |some (d,e,_)=>Km (XW X.tt g op) (d,e::H,n+1)
  |none=>none
 | .store _ _ _=>match Fw X.tt H g op with
  |some (k,e,_)=>Km (Tg X.tt H g op) (.prim (.tuple #[]),Hp.set H k e,n+1)
  |none=>none
 | .load _ _ | .alloc _ | .box _ _ | .buildSlice _ _ _=>match Ex X.tt H n n g op with
  |some (d,ne,_)=>Km (K5 X.tt H g op) (d,DE ne H,n+1)
  |none=>none
 | .indexAddr t x ix=>LP (QF X g H n op) (match S4 X.tt g t x ix with
  |some d=>some (d,H,n+1)
  |none=>none)
 | .makeInterface _ _ | .lookup _ _ _ _=>S2 X g H n op
 | .binOp _ _ _ _ _=>LP (QF X g H n op) (S2 X g H n op)
 |_=>QF X g H n op
def Vt (X:EV)(cl:JB)(ops:Array Oper)(s:St)(o:Oper):Option (D×Hp×Nat):=match CP ops s.env o with
 |some true=>jl X cl (OP s.env) s.H s.n o.op
 |some false=>some (.prim (.tuple #[]),s.H,s.n+1)
 |none=>none
def Mq (X:EV)(cl:JB)(ops:Array Oper):List Oper->St->Option St
 | [],s=>some s
 |o::os,s=>match Vt X cl ops s o with
  |some (d,H',n')=>Oe d λd=>Hj n' λn'=>Mq X cl ops os ⟨Bi s.env o.dst d,H',n'⟩
  |none=>none
def Tc (d:D)(H:Hp)(n:Nat):D->Hp->Nat->Prop:=λd1 H1 n1=>d1=d/\H1=H/\n1=n
def Nf (C:BA)(cl:JB):Prop:=∀f ds H n d H' n',cl f ds H n=some (d,H',n')->Cu C f ds H n (Tc d H' n')
def Mc (C:BA)(cp:IY):Prop:=∀f ds d,cp f ds=some d->AK C f ds d/\Ah ds
section
variable {C:BA} {F:AY} {X:EV} {cl:JB} {cp:IY} {ops:Array Oper}
theorem MO {b:Bool}{r r':D×Hp×Nat}(h:Km b r=some r'):b=true/\r=r':=by
 cases b
 ·cases h
 ·cases h;exact⟨rfl,rfl⟩
theorem ZD {tt:Nat->Option A7}{g:Operand->D}{t:Nat}{x ix:Operand}{d:D}(h:S4 tt g t x ix=some d):∃i e esz eby ez kk j nn es d',tt t=some i/\i.ti=.slice e esz eby ez/\g ix=.prim (.int kk j) /\
  g x=.sl nn esz es/\0<=j/\es[j.toNat]?=some d'/\d=.pptr d':=by
 unfold S4 at h;split at h<;>try(cases h;done)
 rename_i i h1;split at h<;>try(cases h;done)
 rename_i e esz eby ez h2;split at h<;>try(cases h;done)
 rename_i kk j h3;split at h<;>try(cases h;done)
 rename_i nn sz es h4;split at h<;>try(cases h;done)
 rename_i h5;split at h<;>try(cases h;done)
 rename_i d' h6;cases h;simp only[BY,Gi]at h5;obtain rfl:=CG h5.1;exact⟨i,e,sz,eby,ez,kk,j,nn,es,d',h1,h2,h3,h4,h5.2,h6,rfl⟩
theorem nj (hX:Fk C X)(hcl:Nf C cl){s:St}{o:Oper}{os:List Oper}{K:St->Prop}{d:D}{H':Hp}{n':Nat}(h:Vt X cl ops s o=some (d,H',n'))
  (hk:BL C F ops os ⟨Bi s.env o.dst d,H',n'⟩ K):BL C F ops (o::os) s K:=by
 unfold Vt at h;rw[PZ]at h;split at h<;>try(cases h;done)
 ·rename_i hw
  have pe:QF X (BI s.env) s.H s.n o.op=some (d,H',n')->BL C F ops (o::os) s K:=λh=>by
   unfold QF at h;split at h<;>try(cases h;done)
   rename_i hp;obtain⟨hb,hr⟩:=MO h;cases hr;exact BL.p hX.tt hw hp (gX hp hb) hk
  have qe:S2 X (BI s.env) s.H s.n o.op=some (d,H',n')->BL C F ops (o::os) s K:=λh=>by
   unfold S2 at h;split at h<;>try(cases h;done)
   rename_i hp;obtain⟨hb,hr⟩:=MO h;cases hr;exact BL.q hX.tt hX.xt hw hp (gY hp hb) hk
  have le:∀r,(match Ex X.tt s.H s.n s.n (BI s.env) o.op with
    |some (d,ne,_)=>Km (K5 X.tt s.H (BI s.env) o.op) (d,DE ne s.H,s.n+1)
    |none=>none)=some r->r=(d,H',n')->BL C F ops (o::os) s K:=λr h hr=>by
   split at h<;>try(cases h;done)
   rename_i hp;obtain⟨hb,hr'⟩:=MO h;rw[<-hr']at hr;cases hr;exact BL.l' s.n hX.tt hw hp (V5 hp hb) hk
  unfold jl at h;split at h
  ·rename_i fop args tys ho
   split at h<;>try(cases h;done)
   rename_i f first captured hf
   split at h
   ·rename_i hn
    cases h;exact BL.nat hw ho hf rfl (hX.nat _ _ _ hn) hk
   refine e1D hw ho hf rfl (hcl _ _ _ _ _ _ _ h) λd1 H1 n1 hΦ=>?_
   obtain⟨rfl,rfl,rfl⟩:=hΦ;exact hk
  ·rename_i r name args tys ho
   split at h<;>try(cases h;done)
   rename_i t d0 hr;split at h<;>try(cases h;done)
   rename_i f hf;refine e1G hw ho hr (hX.mt _ _ _ hf) rfl (hcl _ _ _ _ _ _ _ h) λd1 H1 n1 hΦ=>?_
   obtain⟨rfl,rfl,rfl⟩:=hΦ;exact hk
  ·split at h<;>try(cases h;done)
   rename_i hp;obtain⟨hb,hr⟩:=MO h;cases hr;exact jy s.n hX.tt hw hp (V4 hp hb) hk
  ·split at h<;>try(cases h;done)
   rename_i hp;obtain⟨hb,hr⟩:=MO h;cases hr;exact kA s.n hX.tt hw hp (yA hp hb) hk
  ·split at h<;>try(cases h;done)
   rename_i hp;obtain⟨hb,hr⟩:=MO h;cases hr;exact BL.store hX.tt hw hp (gZ hp hb) hk
  ·exact le _ h rfl
  ·exact le _ h rfl
  ·exact le _ h rfl
  ·exact le _ h rfl
  ·rename_i t x ix ho
   unfold LP at h;split at h
   ·rename_i hr;cases h;exact pe hr
   ·split at h<;>try(cases h;done)
    rename_i hi;cases h;obtain⟨i,e,esz,eby,ez,kk,j,nn,es,d',a1,a2,a3,a4,a5,a6,rfl⟩:=ZD hi;exact BL.idx hX.tt hw ho a1 a2 a3 a4 a5 a6 hk
  ·exact qe h
  ·exact qe h
  ·unfold LP at h
   split at h
   ·rename_i hr;cases h;exact pe hr
   ·exact qe h
  ·exact pe h
 ·rename_i hw
  cases h;exact BL.skip hw hk
theorem Ra (hX:Fk C X)(hcl:Nf C cl){K:St->Prop}:∀ {os:List Oper} {s s':St},Mq X cl ops os s=some s'->K s'->BL C F ops os s K
 | [],s,s',h,hk=>by
  simp only[Mq,BP]at h;subst h;exact BL.nil hk
 |o::os,s,s',h,hk=>by
  simp only[Mq]at h;split at h<;>try(cases h;done)
  rename_i hs;rw[Nm,Mk]at h;exact nj hX hcl hs (Ra hX hcl h hk)
theorem CC.l' {H:Hp}{g:Nat}{env:Ao}{o:Oper}{tt:Nat->Option A7}(k:Nat)(htt:C3 C.P tt){d:D}{ne:Option At}{p:Prop}(hw:CP ops env o=some true)(he:Ex tt H g k (BI env) o.op=some (d,ne,p))(hp:p):CC C F ops H g env o d ne:=by
 refine⟨λe h=>by subst h;exact bO he,λHe ρ a w m hsub fr hne hr=>.inr ⟨IN hr hw,.inl ?_⟩⟩;obtain⟨g',h1,h2⟩:=Iw hr;obtain⟨v,ρ',w',r1,r2⟩:=dE (g:=g') hsub htt m fr hne h2 (by rw[<-nI h1];exact he) hp;exact⟨v,ρ',w',r1,r2⟩
theorem nh {tt:Nat->Option A7}{xt:Nat->Option XI}{g g':Operand->D}{op:Op}(h:∀x∈op.operands,g x=g' x):Gp tt xt g op=Gp tt xt g' op:=by
 cases op<;>simp only[Op.operands]at h<;>try rfl
 case binOp op t x y yt=>simp only[Gp];rw[h x (by simp),h y (by simp)]
 case makeInterface t x=>simp only[Gp];rw[h x (by simp)]
 case lookup t x ix ok=>simp only[Gp];rw[h x (by simp),h ix (by simp)]
theorem CC.q {H:Hp}{g:Nat}{env:Ao}{o:Oper}{tt:Nat->Option A7}{xt:Nat->Option XI}(htt:C3 C.P tt)(hxt:M1 C.P xt){d:D}{p:Prop}(hw:CP ops env o=some true)(he:Gp tt xt (BI env) o.op=some (d,p))(hp:p):
  CC C F ops H g env o d none:=by
 refine⟨by simp,λHe ρ a w m _ _ _ hr=>.inr ⟨IN hr hw,.inl ?_⟩⟩;obtain⟨g',h1,h2⟩:=Iw hr;obtain⟨v,r1,r2⟩:=dG (g:=g') htt hxt h2 (by rw[<-nh h1];exact he) hp;exact⟨v,ρ,w,r1,m,.refl _ _ _,λ_ _ _=>rfl,r2⟩
def OQ (b:Bool)(r:D×Option At):Option (D×Option At):=match b with
 |true=>some r
 |false=>none
theorem RA {b:Bool}{r r':D×Option At}(h:OQ b r=some r'):b=true/\r=r':=by
 cases b
 ·cases h
 ·cases h;exact⟨rfl,rfl⟩
def Qj (X:EV)(g:Operand->D)(op:Op):Option (D×Option At):=match HL X.tt g op with
 |some (d,_)=>OQ (NH X.tt g op) (d,none)
 |none=>none
def Ti (X:EV)(g:Operand->D)(op:Op):Option (D×Option At):=match Gp X.tt X.xt g op with
 |some (d,_)=>OQ (Tf X.xt g op) (d,none)
 |none=>none
def ju (X:EV)(cp:IY)(g:Operand->D)(H:Hp)(n:Nat)(op:Op):Option (D×Option At):=match op with
 | .call ⟨.value fop,args,_⟩=>match g fop with
  | .clo (.func f) first captured=>match X.nat f (first++args.toList.map g++captured)with
   |some d=>some (d,none)
   |none=>match cp f (first++args.toList.map g++captured)with
    |some d=>some (d,none)
    |none=>none
  |_=>none
 | .call ⟨.builtin .append,_,_⟩=>match Eb X.tt [] n n g op with
  |some (d,[e],_)=>OQ (Qi X.tt [] g op) (d,some e)
  |_=>none
 | .load _ _ | .alloc _ | .box _ _ | .buildSlice _ _ _=>match Ex X.tt H n n g op with
  |some (d,ne,_)=>OQ (K5 X.tt H g op) (d,ne)
  |none=>none
 | .indexAddr t x ix=>LP (Qj X g op) (match S4 X.tt g t x ix with
  |some d=>some (d,none)
  |none=>none)
 | .makeInterface _ _ | .lookup _ _ _ _=>Ti X g op
 | .binOp _ _ _ _ _=>LP (Qj X g op) (Ti X g op)
 |_=>Qj X g op
def Po (X:EV)(cp:IY)(ops:Array Oper)(H:Hp)(n:Nat)(env:Ao)(o:Oper):Option (D×Option At):=match CP ops env o with
 |some true=>ju X cp (OP env) H n o.op
 |some false=>some (.prim (.tuple #[]),none)
 |none=>none
theorem Ua (hX:Fk C X)(hcp:Mc C cp){H:Hp}{n:Nat}{env:Ao}{o:Oper}{d:D}{ne:Option At}(h:Po X cp ops H n env o=some (d,ne)):CC C F ops H n env o d ne:=by
 unfold Po at h;rw[PZ]at h;split at h<;>try(cases h;done)
 ·rename_i hw
  have pe:Qj X (BI env) o.op=some (d,ne)->CC C F ops H n env o d ne:=λh=>by
   unfold Qj at h;split at h<;>try(cases h;done)
   rename_i hp;obtain⟨hb,hr⟩:=RA h;cases hr;exact CC.p hX.tt hw hp (gX hp hb)
  have qe:Ti X (BI env) o.op=some (d,ne)->CC C F ops H n env o d ne:=λh=>by
   unfold Ti at h;split at h<;>try(cases h;done)
   rename_i hp;obtain⟨hb,hr⟩:=RA h;cases hr;exact CC.q hX.tt hX.xt hw hp (gY hp hb)
  have le:∀r,(match Ex X.tt H n n (BI env) o.op with
    |some (d,ne,_)=>OQ (K5 X.tt H (BI env) o.op) (d,ne)
    |none=>none)=some r->r=(d,ne)->CC C F ops H n env o d ne:=λr h hr=>by
   split at h<;>try(cases h;done)
   rename_i hp;obtain⟨hb,hr'⟩:=RA h;rw[<-hr']at hr;cases hr;exact CC.l' n hX.tt hw hp (V5 hp hb)
  unfold ju at h;split at h
  ·rename_i fop args tys ho
   split at h<;>try(cases h;done)
   rename_i f first captured hf
   split at h
   ·rename_i hn
    cases h;exact CC.nat hw ho hf rfl (hX.nat _ _ _ hn)
   split at h<;>try(cases h;done)
   rename_i hc;cases h;obtain⟨c1,c2⟩:=hcp _ _ _ hc;exact CC.call hw ho hf rfl c1 c2
  ·split at h<;>try(cases h;done)
   rename_i hp;obtain⟨hb,hr⟩:=RA h;cases hr;exact kP n hX.tt hw hp (V4 hp hb)
  ·exact le _ h rfl
  ·exact le _ h rfl
  ·exact le _ h rfl
  ·exact le _ h rfl
  ·rename_i t x ix ho
   unfold LP at h;split at h
   ·rename_i hr;cases h;exact pe hr
   ·split at h<;>try(cases h;done)
    rename_i hi;cases h;obtain⟨i,e,esz,eby,ez,kk,j,nn,es,d',a1,a2,a3,a4,a5,a6,rfl⟩:=ZD hi;exact CC.idx hX.tt hw ho a1 a2 a3 a4 a5 a6
  ·exact qe h
  ·exact qe h
  ·unfold LP at h
   split at h
   ·rename_i hr;cases h;exact pe hr
   ·exact qe h
  ·exact pe h
 ·rename_i hw
  cases h;exact CC.skip hw
def OA (X:EV)(cp:IY)(ops:Array Oper)(H:Hp)(n:Nat):List Nat->Ao->Hp->Option (Ao×Hp)
 | [],env,N=>some (env,N)
 |i::l,env,N=>match ops[i]? with
  |some o=>match Po X cp ops H (n+i) env o with
   |some (d,ne)=>Oe d λd=>OA X cp ops H n l (Bi env o.dst d) (DE ne N)
   |none=>none
  |none=>none
theorem Z8 (hX:Fk C X)(hcp:Mc C cp){H:Hp}{n:Nat}:∀ {l:List Nat} {env env':Ao} {N N':Hp},OA X cp ops H n l env N=some (env',N')->JU C F ops H n l env N env' N'
 | [],env,env',N,N',h=>by
  simp only[OA,BP,Bq]at h;obtain⟨rfl,rfl⟩:=h;exact .nil _ _
 |i::l,env,env',N,N',h=>by
  simp only[OA]at h;split at h<;>try(cases h;done)
  rename_i o ho;split at h<;>try(cases h;done)
  rename_i d ne hs;rw[Nm]at h;exact .cons ho (Ua hX hcp hs) (Z8 hX hcp h)
def Yw (ops:Array Oper)(done:List Nat):List Nat->Option (Nat×List Nat)
 | []=>none
 |i::r=>match Jg (G3 ops i) done with
  |true=>some (i,r)
  |false=>match Yw ops done r with
   |some (j,r')=>some (j,i::r')
   |none=>none
def XM (ops:Array Oper):Nat->List Nat->List Nat->List Nat
 | 0,done,rest=>done.reverse++rest
 |f+1,done,rest=>match Yw ops done rest with
  |some (i,rest')=>XM ops f (i::done) rest'
  |none=>done.reverse++rest
def WQ (clo:List (Nat×List Nat)):List Nat->List Nat->List Nat->List Nat->List Nat×List Nat
 |_,[],pre,cur=>(pre.reverse,cur.reverse)
 |done,i::l,pre,cur=>match Jg done (GA clo i)with
  |true=>WQ clo (i::done) l pre (i::cur)
  |false=>WQ clo (i::done) l (i::(cur++pre)) []
def zw (ops:Array Oper):List Nat×List Nat:=
 WQ (JF ops (XM ops ops.size [] (List.range ops.size)) []) [] (XM ops ops.size [] (List.range ops.size)) [] []
def e0x:Op->Bool
 | .store _ _ _=>true
 | .call ⟨.builtin .append,_,_⟩=>true
 |_=>false
def iB (ops:Array Oper):List Nat->Option Nat
 | []=>none
 |i::l=>match ops[i]? with
  |some o=>match e0x o.op with
   |true=>some i
   |false=>iB ops l
  |none=>none
def jw (i:Nat):List Nat->List Nat
 | []=>[]
 |j::l=>match Nat.beq i j with
  |true=>[]
  |false=>j::jw i l
def d9C (g:Operand->D):Op->Option Nat
 | .store _ x _=>match g x with
  | .optr k _ _ _ _=>some k
  |_=>none
 | .call ⟨.builtin .append,args,_⟩=>match args.toList with
  | [s,_]=>match g s with
   | .osl k _ _ _ _=>some k
   |_=>none
  |_=>none
 |_=>none
def W7 (X:EV)(e:At)(n:Nat)(g:Operand->D)(op:Op):Option (D×At):=match op with
 | .store _ _ _=>match Fw X.tt [e] g op with
  |some (_,e',_)=>match Tg X.tt [e] g op with
   |true=>some (.prim (.tuple #[]),e')
   |false=>none
  |none=>none
 |_=>match Eb X.tt [e] n n g op with
  |some (d,[e'],_)=>match Qi X.tt [e] g op with
   |true=>some (d,e')
   |false=>none
  |_=>none
def JI (ia:Option Nat)(i:Nat):Bool:=match ia with
 |some j=>Nat.beq i j
 |none=>false
def Ib (ia:Option Nat)(accE:Option At)(R:Hp)(b:Bool):Hp:=match ia with
 |none=>match accE with
  |some e=>match b with
   |true=>e::R
   |false=>R
  |none=>R
 |some _=>R
def Jj (X:EV)(cp:IY)(ops:Array Oper)(iw:Nat)(ia:Option Nat)(R:Hp)(clo:List Nat)(n:Nat):List Nat->Ao->Hp->Option At->Option At->Option (Ao×Hp×At×At)
 | [],env,N,accE,acc=>match accE with
  |some e=>match acc with
   |some e'=>some (env,N,e,e')
   |none=>none
  |none=>none
 |i::l,env,N,accE,acc=>match ops[i]? with
  |some o=>match Nat.beq i iw with
   |true=>match acc with
    |some _=>none
    |none=>match accE with
     |some e=>match CP ops env o with
      |some true=>match W7 X e (n+i) (OP env) o.op with
       |some (d,e')=>Jj X cp ops iw ia R clo n l (Bi env o.dst d) N accE (some e')
       |none=>none
      |_=>none
     |none=>none
   |false=>match JI ia i with
    |true=>match accE with
     |some _=>none
     |none=>match Po X cp ops R (n+i) env o with
      |some (d,some e)=>Oe d λd=>Jj X cp ops iw ia R clo n l (Bi env o.dst d) N (some e) acc
      |_=>none
    |false=>match Po X cp ops (Ib ia accE R (Cq i clo)) (n+i) env o with
     |some (d,ne)=>Oe d λd=>Jj X cp ops iw ia R clo n l (Bi env o.dst d) (DE ne N) accE acc
     |none=>none
  |none=>none
theorem MH {iw:Nat}{ia:Option Nat}{R:Hp}{clo:List Nat}{n:Nat}:∀ {l:List Nat} {env env':Ao} {N N':Hp} {accE acc:Option At} {e e':At},Jj X cp ops iw ia R clo n l env N accE acc=some (env',N',e,e') ->
  (∀a,accE=some a->e=a)/\(∀a,acc=some a->e'=a)
 | [],_,_,_,_,_,_,_,_,h=>by
  simp only[Jj]at h;split at h<;>try(cases h;done)
  split at h<;>try(cases h;done)
  simp only[BP,Bq]at h;exact⟨λa ha=>by cases ha;exact h.2.2.1.symm,λa ha=>by cases ha;exact h.2.2.2.symm⟩
 |i::l,_,_,_,_,_,_,_,_,h=>by
  simp only[Jj]at h;split at h<;>try(cases h;done)
  split at h
  ·split at h<;>try(cases h;done)
   split at h<;>try(cases h;done)
   split at h<;>try(cases h;done)
   split at h<;>try(cases h;done)
   exact⟨(MH h).1,by simp⟩
  ·split at h
   ·split at h<;>try(cases h;done)
    split at h<;>try(cases h;done)
    rw[Nm]at h;exact⟨by simp,(MH h).2⟩
   ·split at h<;>try(cases h;done)
    rw[Nm]at h;exact MH h
theorem rT (hX:Fk C X){W:WR}{n:Nat}{env:Ao}{o:Oper}{d:D}(hw:CP ops env o=some true)(h:W7 X W.e n (BI env) o.op=some (d,W.e')):I4 C F ops W n env o d:=by
 unfold W7 at h;split at h
 ·split at h<;>try(cases h;done)
  rename_i he;split at h<;>try(cases h;done)
  rename_i hk;simp only[BP,Bq]at h;obtain⟨rfl,h2⟩:=h;rw[h2]at he;exact I4.store hX.tt hw he (gZ he hk)
 ·split at h<;>try(cases h;done)
  rename_i he;split at h<;>try(cases h;done)
  rename_i hk;simp only[BP,Bq]at h;obtain⟨rfl,h2⟩:=h;rw[h2]at he;exact I4.app n hX.tt hw he (V4 he hk)
theorem Rb {ia:Option Nat}{i:Nat}:JI ia i=true↔ia=some i:=by
 cases ia with
 |none=>simp[JI]
 |some j=>
  simp only[JI,BP];exact⟨λh=>(CG h).symm,λh=>by rw[h];exact L5 _⟩
theorem Q8 (hX:Fk C X)(hcp:Mc C cp){W:WR}(hwa:W.ia≠some W.iw){clo:List Nat}(hclo:∀j∈clo,EC ops W.iw j){n:Nat}:∀ {l:List Nat} {env env':Ao} {N N':Hp} {accE acc:Option At},
  Jj X cp ops W.iw W.ia W.R clo n l env N accE acc=some (env',N',W.e,W.e')->JG C F ops W n l env N env' N'
 | [],env,env',N,N',accE,acc,h=>by
  simp only[Jj]at h;split at h<;>try(cases h;done)
  split at h<;>try(cases h;done)
  simp only[BP,Bq]at h;obtain⟨rfl,rfl,_⟩:=h;exact .nil _ _
 |i::l,env,env',N,N',accE,acc,h=>by
  simp only[Jj,PZ]at h;split at h<;>try(cases h;done)
  rename_i o ho;split at h
  ·rename_i hb
   have hb:=CG hb;split at h<;>try(cases h;done)
   split at h<;>try(cases h;done)
   rename_i e0;split at h<;>try(cases h;done)
   rename_i hw;split at h<;>try(cases h;done)
   rename_i d e1 he;obtain⟨h1,h2⟩:=MH h;rw[<-h1 _ rfl,<-h2 _ rfl]at he;exact .cons (ne:=none) ho (.inr (.inl ⟨hb,by rw[hb];exact hwa,rfl,rT hX hw he⟩)) (Q8 hX hcp hwa hclo h)
  ·rename_i hb
   have hne:i≠W.iw:=λhi=>by rw[hi,L5]at hb;cases hb
   split at h
   ·rename_i hi
    have hi:=Rb.1 hi;split at h<;>try(cases h;done)
    split at h<;>try(cases h;done)
    rename_i d e0 hs;rw[Nm]at h;have h1:=(MH h).1 _ rfl;rw[<-h1]at hs;exact .cons (ne:=none) ho (.inr (.inr ⟨hne,hi,rfl,Ua (F:=F) hX hcp hs⟩)) (Q8 hX hcp hwa hclo h)
   ·rename_i hi
    have hi:W.ia≠some i:=λh=>by rw[Rb.2 h]at hi;cases hi
    split at h<;>try(cases h;done)
    rename_i d ne hs;rw[Nm]at h;have hacc:=(MH h).1;refine .cons ho (.inl ⟨hne,hi,?_⟩) (Q8 hX hcp hwa hclo h);have hst:=Ua (F:=F) hX hcp hs;unfold Ib at hst;cases hia:W.ia with
    |none=>
     rw[hia]at hst;cases accE with
     |none=>exact .inr hst
     |some a=>
      have:=hacc a rfl
      subst this;dsimp only at hst;cases hm:Cq i clo with
      |true=>rw[hm]at hst;exact .inl ⟨rfl,hclo i (Hu.1 hm),hst⟩
      |false=>rw[hm]at hst;exact .inr hst
    |some ia=>rw[hia]at hst;exact .inr hst
def gO (s:St)(N1:Hp)(k:Nat):Option (Option Nat×Option At×Hp):=match Hp.get s.H k with
 |some e=>some (none,some e,Hp.del s.H k)
 |none=>match Hp.get N1 k with
  |some e=>some (some (e.g-s.n),none,s.H)
  |none=>none
def jr (n:Nat)(pre clo:List Nat)(e:At)(iw:Nat):Option Nat->Bool
 |none=>true
 |some ia=>Nat.beq e.g (n+ia)&&Cq ia clo&&Cq ia pre && !(Nat.beq ia iw)
def am (X:EV)(cl:JB)(cp:IY)(ops:Array Oper)(pre suf:List Nat)(iw:Nat)(s:St):Option St:=match OA X cp ops s.H s.n (jw iw pre) s.env []with
 |some (env1,N1)=>match d9C (OP env1) (ops.getD iw default).op with
  |some k=>match gO s N1 k with
   |some (ia,accE,R)=>match Cq iw pre with
    |true=>match Jj X cp ops iw ia R (GA (JF ops (pre++suf) []) iw) s.n pre s.env [] accE none with
     |some (env,N,e,e')=>match (Nat.beq e'.g e.g||Nat.beq e'.g (s.n+iw))&&jr s.n pre (GA (JF ops (pre++suf) []) iw) e iw ia with
      |true=>Hj (s.n+ops.size) λn=>Mq X cl ops (suf.map λj=>ops.getD j default) ⟨env,N++e'::R,n⟩
      |false=>none
     |none=>none
    |false=>none
   |none=>none
  |none=>none
 |none=>none
def Vp (X:EV)(cl:JB)(cp:IY)(ops:Array Oper)(s:St):Option St:=match zw ops with
 |(pre,suf)=>match HW ops pre suf with
  |true=>match (match iB ops pre with
    |some iw=>am X cl cp ops pre suf iw s
    |none=>none)with
   |some s'=>some s'
   |none=>match OA X cp ops s.H s.n pre s.env []with
    |some (env,N)=>Hj (s.n+ops.size) λn=>Mq X cl ops (suf.map λj=>ops.getD j default) ⟨env,N++s.H,n⟩
    |none=>none
  |false=>none
noncomputable def dd (e:Ao):List Nat->Ao:=List.rec (motive:=λ_=>List Nat->Ao) (λ_=>[]) (λp _ ih seen=>Bool.rec (motive:=λ_=>Ao) (p::ih (p.1::seen)) (ih seen) (S6 p.1 seen)) e
theorem sJ (k:Nat)(d:D)(r:Ao)(seen:List Nat):dd ((k,d)::r) seen=match Cq k seen with
  |true=>dd r seen
  |false=>(k,d)::dd r (k::seen):=by
 show Bool.rec (motive:=λ_=>Ao) _ _ (S6 k seen)=_;rw[bc];cases Cq k seen<;>rfl
theorem Vk:∀(e:Ao) (seen:List Nat) (t:Nat),t∉seen->(dd e seen).get t=e.get t
 | [],_,_,_=>rfl
 |(k,d)::r,seen,t,h=>by
  rw[sJ];cases hb:Cq k seen with
  |true=>
   dsimp only;have hk:k≠t:=λhk=>h (hk ▸ Hu.1 hb)
   rw[Vk r seen t h,JM,AG hk]
  |false=>
   dsimp only;rw[JM,JM]
   by_cases hk:k=t
   ·rw[AH hk,AH hk]
   ·rw[AG hk,AG hk,Vk r (k::seen) t (by simp;exact⟨λh=>hk h.symm,h⟩)]
def OT (f:D->List Nat->List Nat):List D->List Nat->List Nat
 | [],acc=>acc
 |d::l,acc=>OT f l (f d acc)
def Kk:Nat->D->List Nat->List Nat
 | 0,_,acc=>acc
 |n+1,d,acc=>match d with
  | .osl k _ _ _ _=>k::acc
  | .optr k _ _ _ _=>k::acc
  | .agg l=>OT (Kk n) l acc
  | .tup l=>OT (Kk n) l acc
  | .clo _ a b=>OT (Kk n) a (OT (Kk n) b acc)
  | .gd _ d=>Kk n d acc
  | .ifc _ d=>Kk n d acc
  |_=>acc
def gj:Ao->List Nat->List Nat
 | [],acc=>acc
 |(_,d)::r,acc=>gj r (Kk 5 d acc)
def Sp:Hp->List Nat->List Nat
 | [],acc=>acc
 |e::r,acc=>Sp r (OT (Kk 5) e.es acc)
def Lc (p:At->Bool):Hp->Hp
 | []=>[]
 |e::r=>match p e with
  |true=>e::Lc p r
  |false=>Lc p r
theorem RC (p:At->Bool):∀H:Hp,(Lc p H).Sublist H
 | []=>.slnil
 |e::r=>by
  simp only[Lc];split
  ·exact(RC p r).cons_cons e
  ·exact(RC p r).cons e
def OO {α:Type}:List Nat->(List Nat->α)->α
 | [],k=>k []
 |n::l,k=>Hj n λn=>OO l λl=>k (n::l)
theorem Ro {α:Type}:∀(l:List Nat) (k:List Nat->α),OO l k=k l
 | [],_=>rfl
 |n::l,k=>by simp only[OO,Mk,Ro l]
def QN {α:Type}:Hp->(Hp->α)->α
 | [],k=>k []
 |e::l,k=>QN l λl=>k (e::l)
theorem VF {α:Type}:∀(l:Hp) (k:Hp->α),QN l k=k l
 | [],_=>rfl
 |e::l,k=>by simp only[QN,VF l]
def XS {α:Type}(n:Nat)(env:Ao)(H:Hp)(k:Hp->α):α:=OO (Sp H (gj env [])) λks=>QN (Lc (λe=>match Nat.blt e.g n with
  |true=>true
  |false=>Cq e.k ks) H) k
theorem yG {α:Type}(n:Nat)(env:Ao)(H:Hp)(k:Hp->α):∃H':Hp,H'.Sublist H/\XS n env H k=k H':=⟨_,RC _ _,by unfold XS;rw[Ro,VF]⟩
def XT {α:Type}(n:Nat)(d:D)(H:Hp)(k:Hp->α):α:=
 OO (Sp (Lc (λe=>Nat.blt e.g n) H) (Kk 5 d [])) λks=>OO (Sp (Lc (λe=>Cq e.k ks) H) ks) λks=>QN (Lc (λe=>match Nat.blt e.g n with
  |true=>true
  |false=>Cq e.k ks) H) k
theorem yH {α:Type}(n:Nat)(d:D)(H:Hp)(k:Hp->α):∃H':Hp,H'.Sublist H/\XT n d H k=k H':=⟨_,RC _ _,by unfold XT;rw[Ro,Ro,VF]⟩
def P6 (f:St->Option (Exit×St))(n0:Nat):Nat->St->Option (Exit×St)
 | 0,_=>none
 |k+1,s=>XS n0 s.env s.H λH=>match f ⟨dd s.env [],H,s.n⟩with
  |some (.normal,s')=>P6 f n0 k s'
  |r=>r
def ET (X:EV)(cl:JB)(cp:IY)(lf:Nat):Code->St->Option (Exit×St)
 | .skip,s=>some (.normal,s)
 | .region _ ops draw,s=>match draw with
  |true=>match Vp X cl cp ops s with
   |some s'=>some (.normal,s')
   |none=>none
  |false=>match Mq X cl ops ops.toList s with
   |some s'=>some (.normal,s')
   |none=>none
 | .seq a b,s=>match ET X cl cp lf a s with
  |some (.normal,s')=>ET X cl cp lf b s'
  |r=>r
 | .cond c a b,s=>match OP s.env c with
  | .prim (.bool true)=>ET X cl cp lf a s
  | .prim (.bool false)=>ET X cl cp lf b s
  |_=>none
 | .block i b,s=>match ET X cl cp lf b s with
  |some (.exit j,s')=>match Nat.beq j i with
   |true=>some (.normal,s')
   |false=>some (.exit j,s')
  |r=>r
 | .loop b,s=>P6 (ET X cl cp lf b) (lf/1048576) (lf%1048576) s
 | .exit i,s=>some (.exit i,s)
 | .ret,s=>some (.ret,s)
 |_,_=>none
def isS (e:Exit)(s:St):Exit->St->Prop:=λe1 s1=>e1=e/\s1=s
theorem e1A {c:Code}{s s2:St}{Q:Exit->St->Prop}(he:∀t,s2.env.get t=s.env.get t)(hH:s2.H=s.H)(hn:s2.n=s.n)(h:Ok C F c s2 Q):Ok C F c s Q:=
 λhd ρ a w hs=>h hd ρ a w ⟨by rw[hH];exact hs.mem,by rw[hn];exact hs.fresh,by rw[hH,hn];exact hs.gen,λt=>by rw[he,hH];exact hs.env t,hs.nt,hs.dfr⟩
theorem Ok.subH {c:Code}{env:Ao}{H H':Hp}{n:Nat}{Q:Exit->St->Prop}(hs:H'.Sublist H)(h:Ok C F c ⟨env,H',n⟩ Q):Ok C F c ⟨env,H,n⟩ Q:=
 λhd ρ a w hS=>by
  obtain⟨m,hO⟩:=hS.mem.sub hs;exact h hd ρ a w ⟨m,hS.fresh,λe he=>hS.gen e (hs.subset he),λt=>(hS.env t).anti hO,hS.nt,hS.dfr⟩
theorem Cu.subH {f:Nat}{ds:List D}{H H1 H2:Hp}{n n':Nat}{d:D}(hs:H2.Sublist H1)(h:Cu C f ds H n (Tc d H1 n')):Cu C f ds H n (Tc d H2 n'):=by
 refine⟨h.1,λF ρ w vs m hfr hg hvs hr=>(h.2 F ρ w vs m hfr hg hvs hr).mono ?_⟩;rintro e w' ⟨v,d',H',n2,ρ',rfl,⟨rfl,rfl,rfl⟩,m',x,fr,gn,rep⟩;obtain⟨m2,hO⟩:=m'.sub hs;exact⟨v,_,_,_,ρ',rfl,⟨rfl,rfl,rfl⟩,m2,⟨x.size,x.link,λb hb hb'=>⟨λh=>(x.pure b hb hb').1 (hO b h),(x.pure b hb hb').2⟩,x.shape⟩,fr,λe he=>gn e (hs.subset he),rep.anti hO⟩
theorem nH (hX:Fk C X)(hcl:Nf C cl)(hcp:Mc C cp){i:Nat}{s s':St}(h:Vp X cl cp ops s=some s'):Ok C F (.region i ops true) s (isS .normal s'):=by
 unfold Vp at h;split at h;rename_i pre suf ho;split at h<;>try(cases h;done)
 rename_i hc;split at h
 ·rename_i s1 hh
  cases h
  revert hh
  intro h;split at h<;>try(cases h;done)
  rename_i iw _;unfold am at h;simp only[PZ]at h;split at h<;>try(cases h;done)
  split at h<;>try(cases h;done)
  split at h<;>try(cases h;done)
  rename_i k _ ia accE R hwb;split at h<;>try(cases h;done)
  rename_i hm;split at h<;>try(cases h;done)
  rename_i env N e e' hp;split at h<;>try(cases h;done)
  rename_i hg;rw[Mk]at h;simp only[BY,Kx]at hg;obtain⟨hg1,hg2⟩:=hg;have hreach:∀j∈GA (JF ops (pre++suf) []) iw,EC ops iw j:=λj hj=>Ot (Ow _ _ (by simp)) _ _ hj
  have hia:∀j,ia=some j->e.g=s.n+j/\EC ops iw j/\j∈pre/\j≠iw:=λj hj=>by
   subst hj;simp only[jr,BY,Bs]at hg2;exact⟨CG hg2.1.1.1,hreach j (Hu.1 hg2.1.1.2),Hu.1 hg2.1.2,λh=>by rw[h,L5]at hg2;cases hg2.2⟩
  have hacc:=(MH hp).1;have hst:s.H.Perm (WR.start ⟨iw,ia,e,e',R⟩):=by
   unfold gO at hwb;split at hwb
   ·rename_i e0 he
    cases hwb;obtain⟨H1,H2,q1,_,q3⟩:=M9 e0 he;rw[q3,hacc e0 rfl];unfold WR.start;rw[q1];exact Hb
   ·split at hwb<;>try(cases hwb;done)
    cases hwb;exact List.Perm.refl _
  exact e1y (W:=⟨iw,ia,e,e',R⟩) hX.mixed hc hst (λj hj=>⟨(hia j hj).1,(hia j hj).2.1,(hia j hj).2.2.1⟩) (Hu.1 hm) (hg1.imp CG CG)
   (Q8 (W:=⟨iw,ia,e,e',R⟩) hX hcp (λh=>(hia iw h).2.2.2 rfl) hreach hp) (Ra hX hcl h ⟨rfl,rfl⟩)
 ·split at h<;>try(cases h;done)
  rename_i env N hp;rw[Mk]at h;exact e1w hX.mixed hc (Z8 hX hcp hp) (Ra hX hcl h ⟨rfl,rfl⟩)
theorem Iv (hX:Fk C X)(hcl:Nf C cl)(hcp:Mc C cp){lf:Nat}:∀ {c:Code} {s s':St} {e:Exit},ET X cl cp lf c s=some (e,s')->Ok C F c s (isS e s')
 | .skip,s,s',e,h=>by simp only[ET,BP,Bq]at h;obtain⟨rfl,rfl⟩:=h;exact Ok.skip ⟨rfl,rfl⟩
 | .region i ops draw,s,s',e,h=>by
  simp only[ET]at h;split at h
  ·split at h<;>try(cases h;done)
   rename_i hd;cases h;exact nH hX hcl hcp hd
  ·split at h<;>try(cases h;done)
   rename_i hd;cases h;exact Ok.region (Ra hX hcl hd ⟨rfl,rfl⟩)
 | .seq a b,s,s',e,h=>by
  simp only[ET]at h;refine Ok.seq ?_;split at h
  ·rename_i s1 h1
   refine(Iv hX hcl hcp h1).mono ?_;rintro _ _ ⟨rfl,rfl⟩;exact Iv hX hcl hcp h
  ·rename_i hne
   refine(Iv hX hcl hcp h).mono ?_;rintro e1 s1 ⟨h1,h2⟩;rw[h1,h2];cases e with
   |normal=>exact Ak h (hne _)
   |_=>exact⟨rfl,rfl⟩
 | .cond c a b,s,s',e,h=>by
  simp only[ET,PZ]at h;have hr:∀x,BI s.env c=.prim (.bool x)->∀ρ a w,Bu C F ρ s a w->a.eval c=.bool x:=λx hx ρ a w hs=>by
   have:=Dm hs.env c
   rw[hx]at this;generalize a.eval c=v at this;cases this;rfl
  split at h
  ·rename_i hx
   exact Ok.cond true (hr _ hx) (λ_=>Iv hX hcl hcp h) (λh=>by cases h)
  ·rename_i hx
   exact Ok.cond false (hr _ hx) (λh=>by cases h) (λ_=>Iv hX hcl hcp h)
  ·cases h
 | .block i b,s,s',e,h=>by
  simp only[ET]at h;refine Ok.block ?_;split at h
  ·rename_i j s1 h1
   refine(Iv hX hcl hcp h1).mono ?_;rintro _ _ ⟨rfl,rfl⟩;dsimp only;split at h
   ·rename_i hb
    cases h;rw[AH (CG hb)];exact⟨rfl,rfl⟩
   ·rename_i hb
    cases h;rw[AG (λhj=>by rw[hj,L5]at hb;cases hb)];exact⟨rfl,rfl⟩
  ·rename_i hne
   refine(Iv hX hcl hcp h).mono ?_;rintro e1 s1 ⟨h1,h2⟩;rw[h1,h2];cases e with
   |exit j=>exact Ak h (hne _ _)
   |_=>exact⟨rfl,rfl⟩
 | .loop b,s,s',e,h=>by
  simp only[ET]at h;refine Ok.loop (λm s=>P6 (ET X cl cp lf b) (lf/1048576) m s=some (e,s')) h λm s1 hI=>?_
  cases m with
  |zero=>cases hI
  |succ m=>
   simp only[P6]at hI;obtain⟨H2,hsub,hgc⟩:=yG (α:=Option (Exit×St)) (lf/1048576) s1.env s1.H (λH=>match ET X cl cp lf b ⟨dd s1.env [],H,s1.n⟩with
    |some (.normal,s')=>P6 (ET X cl cp lf b) (lf/1048576) m s'
    |r=>r)
   rw[hgc]at hI;refine e1A (s2:=⟨dd s1.env [],s1.H,s1.n⟩) (λt=>Vk _ _ _ (by simp)) rfl rfl ?_;refine Ok.subH hsub ?_;split at hI
   ·rename_i s2 h2
    refine(Iv hX hcl hcp h2).mono ?_;rintro _ _ ⟨rfl,rfl⟩;exact⟨m,IF m,hI⟩
   ·rename_i hne
    refine(Iv hX hcl hcp hI).mono ?_;rintro e1 s1 ⟨h1,h2⟩;rw[h1,h2];cases e with
    |normal=>exact Ak hI (hne _)
    |_=>exact⟨rfl,rfl⟩
 | .exit i,s,s',e,h=>by simp only[ET,BP,Bq]at h;obtain⟨rfl,rfl⟩:=h;exact Ok.exit ⟨rfl,rfl⟩
 | .ret,s,s',e,h=>by simp only[ET,BP,Bq]at h;obtain⟨rfl,rfl⟩:=h;exact Ok.ret ⟨rfl,rfl⟩
 | .rangeFunc ..,_,_,_,h=>by simp[ET]at h
 | .scope _,_,_,_,h=>by simp[ET]at h
 | .label _,_,_,_,h=>by simp[ET]at h
 | .goto _,_,_,_,h=>by simp[ET]at h
 | .refuse _,_,_,_,h=>by simp[ET]at h
def okR (tt:Nat->Option A7)(s:St):List ResultVar->Bool
 | []=>true
 | .tmp _::r=>okR tt s r
 | .cell a t::r=>K5 tt s.H (λ_=>s.env.get a) (.load t (.tmp 0))&&okR tt s r
theorem Sd {tt:Nat->Option A7}{s:St}:∀ {rs:List ResultVar} {l:List D} {p:Prop},KQ tt s rs=some (l,p)->okR tt s rs=true->p
 | [],_,_,h,_=>by simp only[KQ,BP,Bq]at h;obtain⟨_,rfl⟩:=h;trivial
 |r::rs,l,p,h,hk=>by
  simp only[KQ]at h;split at h<;>try(cases h;done)
  rename_i d q h1;split at h<;>try(cases h;done)
  rename_i l' q' h2;cases h;cases r with
  |tmp t=>
   simp only[Nv,BP,Bq]at h1;obtain⟨_,rfl⟩:=h1;exact⟨trivial,Sd h2 hk⟩
  |cell a t=>
   simp only[okR,BY]at hk;simp only[Nv]at h1;split at h1<;>try(cases h1;done)
   rename_i he;cases h1;exact⟨V5 he hk.1,Sd h2 hk.2⟩
def Sr (tt:Nat->Option A7)(s:St)(rs:List ResultVar):Option (D×Hp×Nat):=match JL tt s rs with
 |some (d,_)=>Km (okR tt s rs) (d,s.H,s.n)
 |none=>none
theorem Z9 {tt:Nat->Option A7}{s:St}{rs:List ResultVar}{d:D}{H:Hp}{n:Nat}(h:Sr tt s rs=some (d,H,n)):∃p,JL tt s rs=some (d,p)/\p/\H=s.H/\n=s.n:=by
 unfold Sr at h;split at h<;>try(cases h;done)
 rename_i d' p hr;obtain⟨hb,he⟩:=MO h;cases he;refine⟨p,hr,?_,rfl,rfl⟩;unfold JL at hr;split at hr<;>try(cases hr;done)
 ·rename_i ha;cases hr;exact Sd ha hb
 ·rename_i ha;cases hr;exact Sd ha hb
def Sq (X:EV)(cl:JB)(cp:IY)(lf f:Nat)(ds:List D)(H:Hp)(n:Nat):Option (D×Hp×Nat):=match X.ft f with
 |some i=>match Nat.ble ds.length i.nt with
  |true=>match ET X cl cp (lf+n*1048576) i.code ⟨Dp 0 ds,H,n⟩with
   |some (.normal,s)=>Sr X.tt s i.res
   |some (.ret,s)=>Sr X.tt s i.res
   |_=>none
  |false=>none
 |none=>none
def Se (X:EV)(cl:JB)(cp:IY)(lf f:Nat)(ds:List D):Option D:=match X.orc f ds with
 |some d=>some d
 |none=>match X.np f with
  |true=>none
  |false=>match Ie (Hx 20) ds with
   |true=>match Sq X cl cp lf f ds [] 0 with
    |some (d,H,_)=>Og 20 H d
    |none=>none
   |false=>none
def Gn (X:EV)(lf:Nat):Nat->IY×JB
 | 0=>(λ_ _=>none,λ_ _ _ _=>none)
 |fu+1=>(Se X (Gn X lf fu).2 (Gn X lf fu).1 lf,λf ds H n=>match Se X (Gn X lf fu).2 (Gn X lf fu).1 lf f ds with
  |some d=>some (d,H,n+1)
  |none=>match Sq X (Gn X lf fu).2 (Gn X lf fu).1 lf f ds H n with
   |some (d,H',n')=>XT n d H' λH2=>some (d,H2,n')
   |none=>none)
theorem aU (hX:Fk C X){lf f:Nat}{ds:List D}{H H':Hp}{n n':Nat}{d:D}(h:Sq X cl cp lf f ds H n=some (d,H',n')):
  ∃fn i e s p,X.ft f=some i/\C.P.funcs[f]?=some fn/\fn.body=some i.code/\(fn.name == "runtime.NumGoroutine")=false/\Do fn.ntmps i.code=true/\Nat.ble ds.length fn.ntmps=true /\
   (e=.normal\/e=.ret)/\ET X cl cp (lf+n*1048576) i.code ⟨Dp 0 ds,H,n⟩=some (e,s)/\JL X.tt s fn.results.toList=some (d,p)/\p/\H'=s.H/\n'=s.n:=by
 unfold Sq at h;split at h<;>try(cases h;done)
 rename_i i hi;obtain⟨fn,a1,a2,a3,a4,a5,a6⟩:=hX.ft f i hi;split at h<;>try(cases h;done)
 rename_i hb;split at h<;>try(cases h;done)
 ·rename_i s hc
  obtain⟨p,b1,b2,b3,b4⟩:=Z9 h;exact⟨fn,i,.normal,s,p,hi,a1,a2,a3,a4,by rw[a5];exact hb,.inl rfl,hc,by rw[a6];exact b1,b2,b3,b4⟩
 ·rename_i s hc
  obtain⟨p,b1,b2,b3,b4⟩:=Z9 h;exact⟨fn,i,.ret,s,p,hi,a1,a2,a3,a4,by rw[a5];exact hb,.inr rfl,hc,by rw[a6];exact b1,b2,b3,b4⟩
theorem Yx (hX:Fk C X)(hcl:Nf C cl)(hcp:Mc C cp){lf f:Nat}{ds:List D}{d:D}(h:Se X cl cp lf f ds=some d):AK C f ds d/\Ah ds:=by
 unfold Se at h;split at h
 ·rename_i ho;cases h;exact hX.orc _ _ _ ho
 ·split at h<;>try(cases h;done)
  split at h<;>try(cases h;done)
  rename_i hp;split at h<;>try(cases h;done)
  rename_i d0 H0 n0 hr;obtain⟨fn,i,e,s,p,_,a1,a2,a3,a4,a5,a6,a7,a8,a9,rfl,rfl⟩:=aU hX hr;obtain⟨z1,z2⟩:=LV h;refine⟨Af.intro hX.tt a1 a2 a3 a4 a5 λF=>(Iv hX hcl hcp a7).mono ?_,⟨λx hx=>Hv (Jc hp x hx)⟩⟩;rintro _ _ ⟨rfl,rfl⟩;exact⟨a6,d0,p,a8,a9,d,z1,z2,rfl⟩
theorem Cu.ofPure {f:Nat}{ds:List D}{d:D}{H:Hp}{n:Nat}(h:AK C f ds d)(hp:Ah ds):Cu C f ds H n (Tc d H (n+1)):=by
 refine⟨h.1,λF ρ w vs m hfr hg hvs hr=>(h.2 (AN F.X ρ H) w vs m.g (BU m.gn m.size) (λb hb=>m.own_lt hb) hvs λi x hx=>hp.out x (Av hx) _ _ _ _ _ (hr i x hx)).mono ?_⟩;rintro e w' ⟨v,d',rfl,hb,rfl,hrep⟩;have x:BZ ρ (AN F.X ρ H) w ρ (AN F.X ρ H) w':=⟨hb.size,λ_ _ _ h=>h,λb hb' hO=>⟨hO,hb.block b hb'⟩,λb cs T fz hh=>⟨cs,_,by
  rw[hb.block b (DA.1 hh).1];exact hh,rfl⟩⟩
 exact⟨v,_,_,_,ρ,rfl,⟨rfl,rfl,rfl⟩,m.same x hb.os hb.tape hb.output hb.block,x,λk g hg=>hfr k g (by omega),λe he=>Di (hg e he),hrep.nol⟩
theorem dC (hX:Fk C X)(lf:Nat):∀fu,Mc C (Gn X lf fu).1/\Nf C (Gn X lf fu).2
 | 0=>⟨λ_ _ _ h=>by simp[Gn]at h,λ_ _ _ _ _ _ _ h=>by simp[Gn]at h⟩
 |fu+1=>by
  obtain⟨hcp,hcl⟩:=dC hX lf fu;refine⟨λf ds d h=>Yx hX hcl hcp h,λf ds H n d H' n' h=>?_⟩;simp only[Gn]at h;split at h
  ·rename_i d0 hp
   cases h;obtain⟨h1,h2⟩:=Yx hX hcl hcp hp;exact .ofPure h1 h2
  ·split at h<;>try(cases h;done)
   rename_i d1 H1 n1 hrun;obtain⟨H2,hsub,hgc⟩:=yH (α:=Option (D×Hp×Nat)) n d1 H1 (λH2=>some (d1,H2,n1));rw[hgc]at h;cases h;refine Cu.subH hsub ?_;obtain⟨fn,i,e,s,p,_,a1,a2,a3,a4,a5,a6,a7,a8,a9,rfl,rfl⟩:=aU hX hrun;refine Cu.intro hX.tt a1 a2 a3 a4 a5 λF _=>(Iv hX hcl hcp a7).mono ?_
   rintro _ _ ⟨rfl,rfl⟩;exact⟨a6,d,p,a8,a9,rfl,rfl,rfl⟩
theorem QV (hX:Fk C X)(lf fu:Nat){f:Nat}{ds:List D}{d:D}(h:(Gn X lf fu).1 f ds=some d):AK C f ds d:=((dC hX lf fu).1 f ds d h).1
end
end
inductive Bt (α:Type) where
 |nil
 |node (k:Nat) (v:α) (l r:Bt α)
def Bt.get {α:Type}:Bt α->Nat->Option α
 | .nil,_=>none
 | .node k v l r,t=>match Nat.beq t k with
  |true=>some v
  |false=>match Nat.ble t k with
   |true=>l.get t
   |false=>r.get t
def Bt.toL {α:Type}:Bt α->List (Nat×α)
 | .nil=>[]
 | .node k v l r=>(k,v)::(l.toL++r.toL)
theorem Bt.get_mem {α:Type}:∀ {b:Bt α} {t:Nat} {v:α},b.get t=some v->(t,v)∈b.toL
 | .nil,_,_,h=>by cases h
 | .node k v l r,t,u,h=>by
  simp only[Bt.get]at h;split at h
  ·rename_i hb;cases h;rw[CG hb];exact B3 ..
  ·split at h
   ·exact CA _ (HK _ (Bt.get_mem h))
   ·exact CA _ (List.mem_append_right _ (Bt.get_mem h))
theorem e1k {P:Program}{b:Bt A7}(h:b.toL.map (λp=>Eh P p.1)=b.toL.map (λp=>some p.2)):C3 P b.get:=λt i hi=>by
 have hm:=Bt.get_mem hi;obtain⟨j,hj,he⟩:=ND hm
 have:=congrArg (λl=>l[j]?) h
 simp only[BC,By hj,he,Jy,BP]at this;exact this
theorem e1l {P:Program}{b:Bt XI}(h:b.toL.map (λp=>Mv P p.1)=b.toL.map (λp=>some p.2)):M1 P b.get:=λt i hi=>by
 have hm:=Bt.get_mem hi;obtain⟨j,hj,he⟩:=ND hm
 have:=congrArg (λl=>l[j]?) h
 simp only[BC,By hj,he,Jy,BP]at this;exact this
def J3 (P:Program) (f:Nat) (i:FI):Prop:=∃fn,P.funcs[f]?=some fn/\fn.body=some i.code/\(fn.name == "runtime.NumGoroutine")=false/\Do fn.ntmps i.code=true/\fn.ntmps=i.nt/\fn.results.toList=i.res
def QD (P:Program):Bt FI->Prop
 | .nil=>True
 | .node k v l r=>J3 P k v/\QD P l/\QD P r
theorem XN {P:Program}:∀ {b:Bt FI},QD P b->∀f i,b.get f=some i->J3 P f i
 | .nil,_,_,_,h=>by cases h
 | .node k v l r,h,f,i,hi=>by
  simp only[Bt.get]at hi;split at hi
  ·rename_i hb;cases hi;rw[CG hb];exact h.1
  ·split at hi
   ·exact XN h.2.1 f i hi
   ·exact XN h.2.2 f i hi
def Li (f:Func):FI:=⟨f.ntmps,f.results.toList,f.body.getD .skip⟩
def fw (rd:Option Nat):Fence:={ Fence.wide with round:=rd }
theorem LG {rd:Option Nat}{n:Nat}{P:Program}{f:FuncId}{args:Array Value}{w:World}{R:Ending->World->Prop}:CallsIn (fw rd) n P f args w R↔Calls P f args w R:=
 (show CallsIn (fw rd) n P f args w R↔CallsIn Fence.wide n P f args w R from Iff.rfl).trans callsIn_wide
theorem MX {rd:Option Nat}{n:Nat}:(fw rd).depth.isSome=true->1<=n:=λh=>by cases h
theorem RH {P:Program}{ρ:Operand->Value}{o:Oper}{w w':World}{x:Next}(h:(execOp ρ o).run P w=.ok x w')(hx:∀d,x≠.defer d):∀c,o.op≠.defer c:=λc hc=>by
 unfold execOp at h;simp only[hc]at h;rw[run_bind]at h;split at h
 ·cases h;exact hx _ rfl
 ·cases h
section
variable {C:BA} {F:AY} {ops:Array Oper} {rd:Option Nat} {Q:Exit->Act->World->Prop}
theorem O2 {P:Program}{o:Oper}{a:Act}{w w':World}{v:Value}{K:Act->World->Prop}(h:(execOp a.eval o).run P w=.ok (.value v) w')(hk:K (a.put o.dst v) w'):o.wpIn (fw rd) 0 P a w K Q:=by
 refine⟨λ_ _=>trivial,?_⟩;rw[Oper.semAt_eq _ _ _ (RH h (by simp)),h];exact hk
theorem mX {P:Program}{o:Oper}{a:Act}{w w':World}{K:Act->World->Prop}(h:(execOp a.eval o).run P w=.ok .skip w')(hk:K (a.put o.dst undef) w'):o.wpIn (fw rd) 0 P a w K Q:=by
 refine⟨λ_ _=>trivial,?_⟩;rw[Oper.semAt_eq _ _ _ (RH h (by simp)),h];exact hk
theorem mU {P:Program}{o:Oper}{a:Act}{w w':World}{f:Nat}{vs:Array Value}{K:Act->World->Prop}(h:(execOp a.eval o).run P w=.ok (.enter f vs) w')
  (hc:Calls P f vs w' λe w''=>∃v,e=.returned v/\K (a.put o.dst v) w''):o.wpIn (fw rd) 0 P a w K Q:=by
 refine⟨λ_ _=>trivial,?_⟩;rw[Oper.semAt_eq _ _ _ (RH h (by simp)),h];refine⟨MX,LG.2 (hc.mono ?_)⟩;rintro e w'' ⟨v,rfl,hk⟩;exact hk
theorem mV {P:Program}{o:Oper}{a:Act}{w w':World}{l f:Nat}{tmps:Array Value}{as bd:Code}{K:Act->World->Prop}(h:(execOp a.eval o).run P w=.ok (.round l f tmps as bd) w')
  (hc:RoundIn (fw rd) 0 P l f tmps as bd w' λe w''=>∃v,e=.returned v/\K (a.put o.dst v) w''):o.wpIn (fw rd) 0 P a w K Q:=by
 refine⟨λ_ _=>trivial,?_⟩;rw[Oper.semAt_eq _ _ _ (RH h (by simp)),h];refine⟨MX,hc.mono ?_⟩;rintro e w'' ⟨v,rfl,hk⟩;exact hk
theorem GJ {R:Exit->Act->World->Prop}{l2:List Nat}(hR:∀e a w,R e a w->e=.normal/\wpOpsIn (fw rd) 0 C.P ops Q l2 a w)(hnd:∀(i:Nat) (o:Oper),ops[i]?=some o->∀c,o.op≠.defer c):
  ∀(l:List Nat) (a:Act) (w:World),wpOps C.P ops R l a w->wpOpsIn (fw rd) 0 C.P ops Q (l++l2) a w
 | [],a,w,h=>(hR _ _ _ h).2
 |i::l,a,w,h=>by
  have hlet:¬LetsOut R:=λ⟨a,w,h⟩=>by have:=(hR _ _ _ h).1;cases this
  simp only[wpOps]at h;simp only[E7,wpOpsIn];cases ho:ops[i]? with
  |none=>simp only[ho]at h;exact GJ hR hnd l a w h
  |some o=>
   simp only[ho]at h;dsimp only;split
   ·rename_i hw
    rw[AH hw]at h;rcases h with h|⟨_,h⟩
    ·unfold Oper.wp at h
     refine⟨λ_ _=>trivial,?_⟩;rw[Oper.semAt_eq _ _ _ (hnd i o ho)]
     revert h
     generalize(execOp a.eval o).run C.P w=r;intro h;unfold Oper.upon at h;unfold Oper.uponIn;split at h
     ·exact GJ hR hnd l _ _ h
     ·exact GJ hR hnd l _ _ h
     ·exact GJ hR hnd l _ _ h
     ·refine⟨MX,LG.2 (h.mono ?_)⟩
      intro e w'' h;cases e with
      |returned v=>exact GJ hR hnd l _ _ h
      |panicked c=>have:=(hR _ _ _ h).1;cases this
      |outgrown=>exact Ak h hlet
     ·exact⟨MX,λc cs hr=>by
       obtain⟨v,w',h1,h2⟩:=h c cs;exact⟨v,w',GJ hR hnd l _ _ h1,stepsIn_wide.2 h2⟩⟩
     ·have:=(hR _ _ _ h).1;cases this
     ·exact h.elim
    ·exact Ak h hlet
   ·rename_i hw
    rw[AG hw]at h;exact⟨λ_ _=>trivial,GJ hR hnd l _ _ h⟩
theorem Tu {Q:Exit->Act->World->Prop}:∀(l:List Nat) (fuel:Nat) (L:Array Bool) (a:Act) (w:World),L.size=ops.size->l.length<=fuel->(∀i,i<ops.size->(Ls L i↔i∉l))->l.Nodup ->
  (∀A i B,l=A++i::B->(∀j∈G3 ops i,j<ops.size/\j∉i::B)/\∀j∈A,EC ops i j)->(∀i∈l,i<ops.size)->Cl ops L ->
  wpOpsIn (fw rd) 0 C.P ops Q l a w->wpAnyIn (fw rd) 0 C.P .any ops Q fuel L a w
 | [],fuel,L,a,w,hs,_,hl,_,_,_,_,h=>by
  have hr:Region.ready .any ops L=[]:=by
   apply List.eq_nil_iff_forall_not_mem.2;intro i hi;obtain⟨h1,h2,_⟩:=FO.1 hi
   have:=(hl i h1).2 (by simp)
   unfold Ls at this;rw[Aw,HN]at this h2;simp at this h2;rw[this]at h2;cases h2
  cases fuel with
  |zero=>exact⟨hr,h⟩
  |succ fuel=>exact⟨λ_=>h,λi hi=>by rw[hr]at hi;simp at hi⟩
 |i::l,0,_,_,_,_,hf,_,_,_,_,_,_=>by simp at hf
 |i::l,fuel+1,L,a,w,hs,hf,hl,hnd,hd,hlt,hcl,h=>by
  have hil:=hlt i (by simp);have hLi:∀j,j<ops.size->(L.getD j true=true↔Ls L j):=λj hj=>by
   unfold Ls;rw[Aw,Aw,HN];simp
  have hready:∀j,j∈Region.ready .any ops L↔j=i:=by
   intro j;rw[FO];constructor
   ·rintro⟨h1,h2,h3⟩
    have hj:j∈i::l:=by
     apply DF;intro hn
     have:=(hLi j h1).2 ((hl j h1).2 hn)
     rw[h2]at this;cases this
    apply DF;intro hne;have hjl:j∈l:=by simpa[hne]using hj
    obtain⟨A,B,rfl⟩:=EY hjl;have hreach:=(hd (i::A) j B (by simp)).2 i (by simp)
    have:=F3 hs hcl hreach h3
    exact Ak ((hl i hil).1 this) (by simp)
   ·rintro rfl
    refine⟨hil,?_,λk hk=>?_⟩
    ·cases hb:L.getD j true with
     |false=>rfl
     |true=>exact Ak ((hl j hil).1 ((hLi j hil).1 hb)) (by simp)
    ·have hk2:=(hd [] j l rfl).1 k hk
     exact(hl k hk2.1).2 hk2.2
  have hset:∀j,Ls (L.setIfInBounds i true) j↔j=i\/Ls L j:=λj=>Ls.set (by omega)
  refine⟨λh0=>?_,λj hj=>?_⟩
  ·have:=(hready i).2 rfl
   rw[h0]at this;simp at this
  ·obtain rfl:=(hready j).1 hj
   rw[wpOpsIn_cons]at h;obtain⟨n1,n2⟩:=List.nodup_cons.1 hnd;refine wpOpIn_mono (λa w hk=>?_) h;refine Tu l fuel _ a w (by simp[hs]) (by simp at hf;omega) (λk hk2=>?_) n2 (λA k B hAB=>?_) (λk hk2=>hlt k (by simp[hk2])) ?_ hk
   ·rw[hset,hl k hk2]
    by_cases hkj:k=j
    ·subst hkj;simp[n1]
    ·simp[hkj]
   ·obtain⟨q1,q2⟩:=hd (j::A) k B (by simp[hAB])
    exact⟨q1,λx hx=>q2 x (by simp[hx])⟩
   ·intro k hk2 hks x hx
    have hk3:Ls (L.setIfInBounds j true) k:=by
     unfold Ls;rw[Aw,B9 (by simp;omega)]at hk2⊢;simpa using hk2
    show Ls _ x;rw[hset];rcases(hset k).1 hk3 with rfl|hk3
    ·exact .inr ((FO.1 hj).2.2 x hx)
    ·exact .inr (hcl k ((hLi k hks).2 hk3) hks x hx)
theorem lW {Q:Exit->Act->World->Prop}{H:Hp}{n:Nat}{env:Ao}{rs:List CE}{suf:List Nat}(ho:Mt ops rs suf)(hgen:∀e∈H,e.g<n)(hd:∀r∈rs,Df F.nt r.o=true)
  (hst:∀A r B,rs=A++r::B->ops[r.i]?=some r.o/\CC C F ops H (n+r.i) (E2 A env) r.o r.d r.ne)
  (hend:∀(L:Array Bool) (a:Act) (w:World) (ρ:Lk) (He:Hp),L.size=ops.size->(∀r∈rs,Ls L r.i)->DI C F H n env rs L a w ρ He->wpOpsIn (fw rd) 0 C.P ops Q suf a w):
  ∀(fuel:Nat) (L:Array Bool) (a:Act) (w:World) (ρ:Lk) (He:Hp),L.size=ops.size->((rs.map (·.i)++suf).filter (λi=>!L.getD i false)).length<=fuel->Cl ops L->(∀i∈suf,¬Ls L i) ->
   DI C F H n env rs L a w ρ He->wpAnyIn (fw rd) 0 C.P .any ops Q fuel L a w:=by
 intro fuel
 induction fuel with
 |zero=>
  intro L a w ρ He hL hf hc hs hi;have h0:(rs.map (·.i)++suf).filter (λi=>!L.getD i false)=[]:=FT (by omega);have hall:∀r∈rs,Ls L r.i:=λr hr=>by
   have:=List.filter_eq_nil_iff.1 h0 r.i (by simp;exact .inl ⟨r,hr,rfl⟩)
   simpa[Ls]using this
  have hsuf:suf=[]:=by
   apply List.eq_nil_iff_forall_not_mem.2;intro i hi2
   have:=List.filter_eq_nil_iff.1 h0 i (by simp[hi2])
   exact hs i hi2 (by simpa[Ls]using this)
  subst hsuf;refine Tu [] 0 L a w hL (An _) (λi hi2=>⟨λ_=>by simp,λ_=>?_⟩) .nil (λA i B h=>by cases A<;>simp at h) (by simp) hc (hend L a w ρ He hL hall hi)
  have:=ho.all i hi2
  simp at this;obtain⟨r,hr,rfl⟩:=this;exact hall r hr
 |succ fuel ih=>
  intro L a w ρ He hL hf hc hs hi
  by_cases hall:∀r∈rs,Ls L r.i
  ·refine Tu suf (fuel+1) L a w hL ?_ (λi hi2=>?_) ?_ (λA i B hAB=>⟨λj hj=>?_,λj hj=>ho.suf A i B hAB j (by simp[hj])⟩) (λi hi2=>ho.lt i (by simp[hi2])) hc (hend L a w ρ He hL hall hi)
   ·refine BU ?_ hf
    rw[List.filter_append,Be];rw[(List.filter_eq_self (l:=suf)).2 λi hi2=>by have:=hs i hi2;unfold Ls at this;simpa using this];omega
   ·constructor
    ·intro h1 h2;exact hs i h2 h1
    ·intro h1
     have:=ho.all i hi2
     rcases Bl.1 this with h|h
     ·obtain⟨r,hr,rfl⟩:=Bx.1 h;exact hall r hr
     ·exact Ak h h1
   ·exact(EQ.1 ho.nodup).2.1
   ·have hA:=ho.first (rs.map (·.i)++A) i B (by simp[hAB]) j hj
    refine⟨ho.lt j (by rw[hAB];rcases Bl.1 hA with h|h<;>simp[h]),λhB=>?_⟩;have hnd:=ho.nodup;rw[hAB,<-Dh,EQ]at hnd;exact hnd.2.2 j hA j hB rfl
  ·have hnot:∃r∈rs,¬Ls L r.i:=by
    apply DF;intro hn;exact hall λr hr=>DF λh=>hn ⟨r,hr,h⟩
   have hLt:∀j,j<ops.size->(L.getD j true=true↔Ls L j):=λj hj=>by
    unfold Ls;rw[Aw,Aw,HN];simp
   have hsome:Region.ready .any ops L≠[]:=by
    obtain⟨r0,hr0,hn0⟩:=hnot
    have:∀X:List CE,∀Y,rs=X++Y->(∃r∈Y,¬Ls L r.i)->(∀r∈X,Ls L r.i)->∃A r B,rs=A++r::B/\¬Ls L r.i/\∀r∈A,Ls L r.i:=by
     intro X Y
     induction Y generalizing X with
     |nil=>rintro _ ⟨r,hr,_⟩ _;simp at hr
     |cons y Y ihY=>
      intro hXY hex hX
      by_cases hy:Ls L y.i
      ·obtain⟨r,hr,hrn⟩:=hex
       rcases A8.1 hr with rfl|hr
       ·exact Ak hy hrn
       ·exact ihY (X++[y]) (by simp[hXY]) ⟨r,hr,hrn⟩ (λr hr=>by
         rcases Bl.1 hr with h|h
         ·exact hX r h
         ·simp at h;subst h;exact hy)
      ·exact⟨X,y,Y,hXY,hy,hX⟩
    obtain⟨A,r,B,h1,h2,h3⟩:=this [] rs rfl ⟨r0,hr0,hn0⟩ (by simp);intro hnil;have hrlt:=ho.lt r.i (by rw[h1];simp)
    have:r.i∈Region.ready .any ops L:=by
     rw[FO];refine⟨hrlt,?_,λj hj=>?_⟩
     ·cases hb:L.getD r.i true with
      |false=>rfl
      |true=>exact Ak ((hLt r.i hrlt).1 hb) h2
     ·have:=ho.first (A.map (·.i)) r.i (B.map (·.i)++suf) (by rw[h1];simp) j hj
      obtain⟨r',hr',rfl⟩:=Bx.1 this;exact h3 r' hr'
    rw[hnil]at this;simp at this
   refine⟨λh0=>Ak h0 hsome,λi hir=>?_⟩;obtain⟨hilt,hin,hid⟩:=FO.1 hir;have hnL:¬Ls L i:=λh=>by rw[(hLt i hilt).2 h]at hin;cases hin
   have hpre:i∈rs.map (·.i):=by
    rcases Bl.1 (ho.all i hilt)with h|h
    ·exact h
    ·obtain⟨A,B,hAB⟩:=EY h
     obtain⟨r0,hr0,hn0⟩:=hnot
     have:=F3 hL hc (ho.suf A i B hAB r0.i (HK _ (Bx.2 ⟨r0,hr0,rfl⟩))) hid
     exact Ak this hn0
   obtain⟨r,hr,rfl⟩:=Bx.1 hpre;obtain⟨A,B,hAB⟩:=EY hr;obtain⟨hor,hgen2,hsteady⟩:=hst A r B hAB;have hset:∀j,Ls (L.setIfInBounds r.i true) j↔j=r.i\/Ls L j:=λj=>Ls.set (by omega)
   have hndr:(rs.map (·.i)).Nodup:=(EQ.1 ho.nodup).1;have hsub:∀e∈H,e∈He:=λe he=>hi.perm.mem_iff.2 (by simp[he])
   have hfr:∀k,ρ k (n+r.i)=none:=λk=>by
    apply DF;intro hk;obtain⟨r',h1,h2,h3⟩:=hi.fresh k (n+r.i) (by omega) hk
    have:r'.i=r.i:=by omega
    rw[this]at h2;exact hnL h2
   have hne:∀e∈He,e.g≠n+r.i:=λe he hg=>by
    rcases Bl.1 (hi.perm.mem_iff.1 he)with h|h
    ·obtain⟨r',h1,h2⟩:=List.mem_filterMap.1 h
     split at h2
     ·rename_i hl
      obtain⟨A',B',hAB'⟩:=EY h1
      have:=(hst A' r' B' hAB').2.1 e h2
      have:r'.i=r.i:=by omega
      rw[this]at hl;exact hnL hl
     ·cases h2
    ·have:=hgen e h;omega
   have next:∀v ρ' w',Jl C F He ρ w (n+r.i) r.d r.ne v ρ' w'->wpAnyIn (fw rd) 0 C.P .any ops Q fuel (L.setIfInBounds r.i true) (a.put r.o.dst v) w':=by
    intro v ρ' w' p;have hi':=hi;rw[hAB]at hi' hndr;have hdst:=ho.dst;rw[hAB]at hdst;have hn':=DI.next hi' (by omega) hnL hndr hdst (hd r hr) p;rw[<-hAB]at hn';refine ih _ _ _ ρ' (DE r.ne He) (by simp[hL]) ?_ ?_ (λj hj=>?_) hn'
    ·have:((rs.map (·.i)++suf).filter (λi=>!(L.setIfInBounds r.i true).getD i false)).length<((rs.map (·.i)++suf).filter (λi=>!L.getD i false)).length:=by
      have sub:(rs.map (·.i)++suf).filter (λi=>!(L.setIfInBounds r.i true).getD i false)=((rs.map (·.i)++suf).filter (λi=>!L.getD i false)).filter (λi=>!Nat.beq i r.i):=by
       rw[List.filter_filter];apply List.filter_congr;intro x hx;have h1:=hset x;unfold Ls at h1
       by_cases hxr:x=r.i
       ·subst hxr
        have:(L.setIfInBounds r.i true).getD r.i false=true:=h1.2 (.inl rfl)
        simp[this]
       ·have hb:Nat.beq x r.i=false:=by
         cases hb:Nat.beq x r.i with
         |false=>rfl
         |true=>exact Ak (CG hb) hxr
        rw[hb]
        by_cases hlx:L.getD x false=true
        ·rw[h1.2 (.inr hlx),hlx];rfl
        ·have:¬(L.setIfInBounds r.i true).getD x false=true:=λh=>hlx ((h1.1 h).resolve_left hxr)
         simp only[Bool.not_eq_true]at this hlx;rw[this,hlx];rfl
      rw[sub];apply List.length_filter_lt_length_iff_exists.2;exact⟨r.i,by rw[List.mem_filter];exact⟨by simp;exact .inl ⟨r,hr,rfl⟩,by unfold Ls at hnL;simpa using hnL⟩,by simp⟩
     omega
    ·intro k hk2 hks x hx
     have hk3:Ls (L.setIfInBounds r.i true) k:=by
      unfold Ls;rw[Aw,B9 (by simp;omega)]at hk2⊢;simpa using hk2
     show Ls _ x;rw[hset];rcases(hset k).1 hk3 with rfl|hk3
     ·exact .inr (hid x hx)
     ·exact .inr (hc k ((hLt k hks).2 hk3) hks x hx)
    ·rw[hset]
     rintro(rfl|h)
     ·have hnd:=ho.nodup
      rw[EQ]at hnd;exact hnd.2.2 r.i (Bx.2 ⟨r,hr,rfl⟩) r.i hj rfl
     ·exact hs j hj h
   unfold wpOpIn;simp only[hor];rcases hsteady He ρ a w hi.mem hsub hfr hne (hi.look ho hL hc hAB hir)with⟨hw,hn0,hrep⟩|⟨hw,hout⟩
   ·rw[AG (by rw[hw];simp)]
    exact⟨λ_ _=>trivial,next undef ρ w ⟨by rw[hn0];exact hi.mem,by rw[hn0];exact .refl _ _ _,λ_ _ _=>rfl,by rw[hn0];exact hrep⟩⟩
   ·rw[AH hw]
    rcases hout with⟨v,ρ',w',h1,h2⟩|⟨f,vs,h1,h2⟩
    ·exact O2 h1 (next v ρ' w' h2)
    ·refine mU h1 (h2.mono ?_)
     rintro e w' ⟨v,rfl,ρ',h3⟩;exact⟨v,rfl,next v ρ' w' h3⟩
theorem zN {R:Exit->Act->World->Prop}{i:Nat}{s:St}{pre suf:List Nat}{envF:Ao}{N:Hp}(hm:C.P.follows .mixedOrders=true)(hc:HW ops pre suf=true)
  (hpre:JU C F ops s.H s.n pre s.env [] envF N)
  (h:(∀j∈suf,j<ops.size)->∀(ρ:Lk) (a:Act) (w:World),Bu C F ρ ⟨envF,N++s.H,s.n+ops.size⟩ a w->wpOpsIn (fw rd) 0 C.P ops R suf a w) (hd:ops.toList.all (Df F.nt)=true) (ρ:Lk) (a:Act) (w:World) (hs:Bu C F ρ s a w):
  (Code.region i ops true).wpIn (fw rd) 0 C.P R a w:=by
 obtain⟨rs,h1,h2,h3,h4⟩:=hpre.recs;have hor:∀r∈rs,ops[r.i]?=some r.o:=λr hr=>by
  obtain⟨A,B,hAB⟩:=EY hr;exact(h4 A r B hAB).1
 have ho:=Rh h1 hor hc;have hds:∀r∈rs,Df F.nt r.o=true:=λr hr=>by
  refine CW.1 hd r.o ?_
  have:=hor r hr
  exact IB.2 (Ik this)
 have hrep:∀j,(Array.replicate ops.size false).getD j false=false:=λj=>by
  rw[Aw];rw[Lw];split<;>rfl
 have hnL:∀j,¬Ls (Array.replicate ops.size false) j:=λj hj=>by unfold Ls at hj;rw[hrep]at hj;cases hj
 refine wpIn_region_any hm ?_;have hin:DI C F s.H s.n s.env rs (Array.replicate ops.size false) a w.drew ρ s.H:=by
  refine⟨hs.mem.drew,?_,λr _ hl=>Ak hl (hnL _),λt _=>(hs.env t).mono (.drew _ _ _),λk g hg hk=>Ak (hs.fresh k g hg) hk,hs.nt,hs.dfr⟩
  have:rs.filterMap (λr=>if(Array.replicate ops.size false).getD r.i false then r.ne else none)=[]:=by
   rw[TQ];intro r _;rw[hrep];rfl
  rw[this];exact List.Perm.refl _
 refine lW ho hs.gen hds h4 ?_ ops.size _ a w.drew ρ s.H (by simp) ?_ ?_ (λj _=>hnL j) hin
 ·intro L a' w' ρ' He hL hall hi
  have hN:He.Perm (N++s.H):=by
   refine hi.perm.trans (List.Perm.append_right _ ?_);have e:rs.filterMap (λr=>if L.getD r.i false then r.ne else none)=rs.filterMap (·.ne):=KA λr hr=>by
    have:=hall r hr;unfold Ls at this;rw[this];rfl
   rw[e,h3]
   have:=MI rs []
   rw[Du]at this;exact this.symm
  refine h (λj hj=>ho.lt j (by simp[hj])) ρ' a' w' ⟨hi.mem.perm hN,?_,?_,λt=>?_,hi.nt,hi.dfr⟩
  ·intro k g hg
   apply DF;intro hk;obtain⟨r,hr,_,he⟩:=hi.fresh k g (by simp at hg;omega) hk
   have:=ho.lt r.i (by simp;exact .inl ⟨r,hr,rfl⟩)
   simp at hg;omega
  ·intro e he
   rcases Bl.1 he with he|he
   ·rw[h3]at he
    have he:=(MI rs []).mem_iff.1 he;rw[Du]at he;obtain⟨r,hr,hre⟩:=List.mem_filterMap.1 he;obtain⟨A,B,hAB⟩:=EY hr
    have:=(h4 A r B hAB).2.1 e hre
    have:=ho.lt r.i (by simp;exact .inl ⟨r,hr,rfl⟩)
    show e.g<s.n+ops.size;omega
   ·have:=hs.gen e he
    show e.g<s.n+ops.size;omega
  ·show AU ρ' (AN F.X ρ' (N++s.H)) w' (envF.get t) _
   rw[<-AN.perm hN,h2]
   by_cases hw:∃r∈rs,r.o.dst=some t
   ·obtain⟨r,hr,hrd⟩:=hw
    rw[MW rs s.env t ho.dst r hr hrd];exact hi.reps r hr (hall r hr) t hrd
   ·rw[JY rs s.env t λr hr hrd=>hw ⟨r,hr,hrd⟩]
    exact hi.old t λr hr _ hrd=>hw ⟨r,hr,hrd⟩
 ·refine BU (List.length_filter_le _ _) ?_
  have hsub:∀(l:List Nat) (n:Nat),l.Nodup->(∀x∈l,x<n)->l.length<=n:=by
   intro l n
   induction n generalizing l with
   |zero=>intro _ h;cases l with
    |nil=>simp
    |cons x l=>exact Ak (h x (by simp)) (by omega)
   |succ n ihn=>
    intro hnd hlt;have h1:=ihn (l.erase n) (hnd.erase n) λx hx=>by
     have:=hlt x (List.mem_of_mem_erase hx)
     have:x≠n:=λh=>by subst h;exact(TS hnd) hx
     omega
    have:=List.length_erase (a:=n) (l:=l)
    split at this<;>omega
  exact hsub _ _ ho.nodup ho.lt
 ·intro k hk
  have:k<ops.size\/¬k<ops.size:=by omega
  rcases this with hlt|hlt
  ·rw[Aw,Lw,AH hlt]at hk;cases hk
  ·intro h;exact Ak h hlt
theorem KH {R Q:Exit->Act->World->Prop}(hR:∀e a w,R e a w->e=.normal/\Q .normal a w)(hnd:∀(i:Nat) (o:Oper),ops[i]?=some o->∀c,o.op≠.defer c):
  ∀(fuel:Nat) (L:Array Bool) (a:Act) (w:World),wpAny C.P .any ops R fuel L a w->wpAnyIn (fw rd) 0 C.P .any ops Q fuel L a w
 | 0,L,a,w,h=>⟨h.1,(hR _ _ _ h.2).2⟩
 |fuel+1,L,a,w,h=>⟨λh0=>(hR _ _ _ (h.1 h0)).2,λi hi=>by
   have hlet:¬LetsOut R:=λ⟨a,w,h⟩=>by have:=(hR _ _ _ h).1;cases this
   have hq:=h.2 i hi;unfold wpOp at hq;unfold wpOpIn;split
   ·rename_i ho;simp only[ho]at hq;exact KH hR hnd fuel _ a w hq
   ·rename_i o ho
    simp only[ho]at hq;split
    ·rename_i hw
     rw[AH hw]at hq;rcases hq with hq|⟨_,hq⟩
     ·unfold Oper.wp at hq
      refine⟨λ_ _=>trivial,?_⟩;rw[Oper.semAt_eq _ _ _ (hnd i o ho)]
      revert hq
      generalize(execOp a.eval o).run C.P w=r;intro hq;unfold Oper.upon at hq;unfold Oper.uponIn;split at hq
      ·exact KH hR hnd fuel _ _ _ hq
      ·exact KH hR hnd fuel _ _ _ hq
      ·exact KH hR hnd fuel _ _ _ hq
      ·refine⟨MX,LG.2 (hq.mono ?_)⟩
       intro e w'' h;cases e with
       |returned v=>exact KH hR hnd fuel _ _ _ h
       |panicked c=>have:=(hR _ _ _ h).1;cases this
       |outgrown=>exact Ak h hlet
      ·exact⟨MX,λc cs hr=>by
        obtain⟨v,w',h1,h2⟩:=hq c cs;exact⟨v,w',KH hR hnd fuel _ _ _ h1,stepsIn_wide.2 h2⟩⟩
      ·have:=(hR _ _ _ hq).1;cases this
      ·exact hq.elim
     ·exact Ak hq hlet
    ·rename_i hw
     rw[AG hw]at hq;exact⟨λ_ _=>trivial,KH hR hnd fuel _ _ _ hq⟩⟩
end
end Go.Ide
