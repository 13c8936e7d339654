/- The layer of own lemmas and contracts, part 2. -/
import Derived.Test.YtaoojbnciofmcaaGreatDoorAA1
import Derived.Lib.AppendStr
import Derived.Laws.StructEq
import Derived.MapKept
import Derived.OrdersIn
import Derived.RangeFuncLeaves
import Derived.RangeFuncSeq
set_option linter.unusedVariables false
set_option linter.unusedSimpArgs false
namespace Go.Ide
open Go.RowKit
section
variable {C:A9} {F:AY} {ρ:Lk} {H:Hp} {w:World}
theorem Ak.rename {H1 H2:Hp}{e:Aq}{b k n:Nat}(m:Ak C F ρ (H1++e::H2) w)(hb:ρ e.k e.g=some b)(hn:ρ k n=none)(hne:∀e'∈H1++e::H2,e'.g≠n):
  Ak C F (ρ.put k n b) (⟨k,n,e.T,e.sz,e.es⟩::(H1++H2)) w/\BX ρ (AM F.X ρ (H1++e::H2)) w (ρ.put k n b) (AM F.X (ρ.put k n b) (⟨k,n,e.T,e.sz,e.es⟩::(H1++H2))) w:=by
 have hold:∀e'∈H1++e::H2,∀b',ρ.put k n b e'.k e'.g=some b'↔ρ e'.k e'.g=some b':=λe' he' b'=>by
  unfold Lk.put;rw[AG λh=>hne e' he' h.2]
 have hmem:∀e',e'∈H1++e::H2↔e'=e\/e'∈H1++H2:=λe'=>by simp;constructor<;>(rintro(h|h|h)<;>simp[h])
 have hO:∀b',AM F.X (ρ.put k n b) (⟨k,n,e.T,e.sz,e.es⟩::(H1++H2)) b'↔AM F.X ρ (H1++e::H2) b':=by
  intro b';unfold AM;refine or_congr Iff.rfl ⟨?_,?_⟩
  ·rintro⟨e',he',h⟩
   rcases Az.1 he' with rfl|he'
   ·rw[Ei]at h;exact⟨e,by simp,by rw[hb];exact h⟩
   ·have hm:=(hmem e').2 (.inr he')
    exact⟨e',hm,(hold e' hm b').1 h⟩
  ·rintro⟨e',he',h⟩
   rcases(hmem e').1 he' with rfl|h2
   ·rw[hb]at h;cases h
    exact⟨_,CO ..,Ei _ _ _ _⟩
   ·exact⟨e',CT _ h2,(hold e' he' b').2 h⟩
 have hOe:AM F.X (ρ.put k n b) (⟨k,n,e.T,e.sz,e.es⟩::(H1++H2))=AM F.X ρ (H1++e::H2):=funext λb=>propext (hO b)
 have x:BX ρ (AM F.X ρ (H1++e::H2)) w (ρ.put k n b) (AM F.X (ρ.put k n b) (⟨k,n,e.T,e.sz,e.es⟩::(H1++H2))) w:=
  ⟨Al _,λ_ _ _ h=>N7 hn h,λb' _ h=>⟨by rw[hOe];exact h,rfl⟩,λ_ cs _ _ h=>⟨cs,_,h,rfl⟩⟩
 have hinj:=m.hok.inj;rw[IV,Da]at hinj;obtain⟨p1,⟨p2,p3⟩,p4⟩:=hinj;refine⟨⟨⟨λe' he'=>?_,?_,λe' he' b' hb'=>?_⟩,m.os,m.tape,m.output,m.size,m.blk,m.xlt,m.g0,m.gn,m.gw,λ_ _ _ h=>x.link _ _ _ (m.lnk _ _ _ h),m.shp⟩,x⟩
 ·rcases Az.1 he' with rfl|h2
  ·obtain⟨cs,a1,a2⟩:=m.at (e:=e) (by simp) hb
   have z:=a2.mono x;exact .inr ⟨b,cs,Ei _ _ _ _,a1,z.len,z.siz,z.one,z.rep⟩
  ·have hm:=(hmem e').2 (.inr h2)
   rcases m.hok.ent e' hm with⟨a1,a2⟩|⟨b',cs,a1,a2,a3⟩
   ·exact .inl ⟨a1,by unfold Lk.put;rw[AG λh=>hne e' hm h.2];exact a2⟩
   ·exact .inr ⟨b',cs,(hold e' hm b').2 a1,a2,a3.mono x⟩
 ·rw[Da,IV]
  have tr:∀ {e1 e2:Aq},e1∈H1++e::H2->e2∈H1++e::H2->(∀b b',ρ e1.k e1.g=some b->ρ e2.k e2.g=some b'->b≠b')->∀b1 b2,ρ.put k n b e1.k e1.g=some b1->ρ.put k n b e2.k e2.g=some b2->b1≠b2:=
   λh1 h2 h b1 b2 hb1 hb2=>h b1 b2 ((hold _ h1 b1).1 hb1) ((hold _ h2 b2).1 hb2)
  refine⟨λe2 he2 b1 b2 hb1 hb2=>?_,?_,?_,?_⟩
  ·rw[Ei]at hb1;cases hb1
   have hm:=(hmem e2).2 (.inr he2);have hb2:=(hold _ hm b2).1 hb2;rcases B0.1 he2 with h|h
   ·exact λhe=>p4 e2 h e (by simp) b2 b hb2 hb he.symm
   ·exact p2 e2 h b b2 hb hb2
  ·exact p1.imp_of_mem λh1 h2 h=>tr (by simp[h1]) (by simp[h2]) h
  ·exact p3.imp_of_mem λh1 h2 h=>tr (by simp[h1]) (by simp[h2]) h
  ·exact λe1 h1 e2 h2=>tr (by simp[h1]) (by simp[h2]) (p4 e1 h1 e2 (by simp[h2]))
 ·rcases Az.1 he' with rfl|h2
  ·rw[Ei]at hb';cases hb'
   exact m.hok.own e (by simp) b hb
  ·have hm:=(hmem e').2 (.inr h2)
   exact m.hok.own e' hm b' ((hold _ hm b').1 hb')
theorem Ak.ghost {k n T sz:Nat}(m:Ak C F ρ H w)(hn:ρ k n=none):Ak C F ρ (⟨k,n,T,sz,[]⟩::H) w/\AM F.X ρ (⟨k,n,T,sz,[]⟩::H)=AM F.X ρ H:=by
 have hO:AM F.X ρ (⟨k,n,T,sz,[]⟩::H)=AM F.X ρ H:=funext λb=>propext (by
  unfold AM;refine or_congr Iff.rfl ⟨?_,λ⟨e,he,h⟩=>⟨e,CT _ he,h⟩⟩;rintro⟨e,he,h⟩;rcases Az.1 he with rfl|he
  ·rw[hn]at h;cases h
  ·exact⟨e,he,h⟩)
 refine⟨⟨⟨λe he=>?_,?_,λe he b hb=>?_⟩,m.os,m.tape,m.output,m.size,m.blk,m.xlt,m.g0,m.gn,m.gw,m.lnk,m.shp⟩,hO⟩
 ·rw[hO]
  rcases Az.1 he with rfl|he
  ·exact .inl ⟨rfl,hn⟩
  ·exact m.hok.ent e he
 ·refine Da.2 ⟨λe he b b' hb _=>?_,m.hok.inj⟩
  rw[hn]at hb;cases hb
 ·rcases Az.1 he with rfl|he
  ·rw[hn]at hb;cases hb
  ·exact m.hok.own e he b hb
def IQ (H:Hp)(esz:Nat):D->Option (List D×Prop)
 | .sl _ sz es=>some (es,sz=esz)
 | .osl k g sz i len=>match Hp.get H k with
  |some e=>some ((e.es.drop i).take len,g=e.g/\sz=e.sz/\sz=esz/\i+len<=e.es.length)
  |none=>none
 | .prim (.slice none 0 0)=>some ([],True)
 |_=>none
structure ON (ρ:Lk)(O:Nat->Prop)(w:World)(esz:Nat)(es:List D)(a:Addr)(f:Nat->Value):Prop where
 cell:∀j,j<es.length*esz->w.cell? (a.add j)=some (f j)
 one:∀j,j<es.length*esz->one (f j)=true
 siz:∀(i:Nat) (e:D),es[i]?=some e->e.cells.length=esz
 rep:∀(i:Nat) (e:D) (j:Nat) (d:D),es[i]?=some e->e.cells[j]?=some d->AV ρ O w d (f (i*esz+j))
structure Ns (ρ:Lk)(O:Nat->Prop)(w:World)(esz:Nat)(es:List D)(f:Nat->Value):Prop where
 one:∀j,j<es.length*esz->one (f j)=true
 siz:∀(i:Nat) (e:D),es[i]?=some e->e.cells.length=esz
 rep:∀(i:Nat) (e:D) (j:Nat) (d:D),es[i]?=some e->e.cells[j]?=some d->AV ρ O w d (f (i*esz+j))
theorem ON.srcv {ρ:Lk}{O:Nat->Prop}{w:World}{esz:Nat}{es:List D}{a:Addr}{f:Nat->Value}(h:ON ρ O w esz es a f):Ns ρ O w esz es f:=⟨h.one,h.siz,h.rep⟩
theorem dR {esz:Nat}{d:D}{v:Value}{es:List D}{p:Prop}(m:Ak C F ρ H w)(h:IQ H esz d=some (es,p))(hp:p)(hr:AV ρ (AM F.X ρ H) w d v):
  (v=.slice none 0 0/\es=[])\/∃a c f,v=.slice (some a) es.length c/\es.length<=c/\ON ρ (AM F.X ρ H) w esz es a f:=by
 unfold IQ at h;split at h<;>try(cases h;done)
 ·cases h
  cases hr with
  |nil=>exact .inl ⟨rfl,rfl⟩
  |emp a=>exact .inr ⟨a,0,λ_=>undef,rfl,by simp,λj hj=>by simp at hj,λj hj=>by simp at hj,λi e h=>by simp at h,λi e j d h=>by simp at h⟩
  |sl f hl hc hO hb hz hcell ho hh=>
   subst hp;refine .inr ⟨_,_,f,by rw[hl],by omega,λj hj=>?_,λj hj=>ho j (by rw[<-hl];exact hj),hz,hh⟩;rw[IF];exact hcell j (by rw[<-hl];exact hj)
 ·rename_i k g sz i len
  split at h<;>try(cases h;done)
  rename_i e he;cases h;obtain⟨rfl,rfl,rfl,hle⟩:=hp;obtain⟨hm,hk⟩:=Hp.get_mem he;cases hr with
  |onil=>exact .inl ⟨rfl,by simp⟩
  |osl hr hb hc hs hmx=>
   rename_i cap b T cs fz;rw[<-hk]at hr;obtain⟨cs',h1,h2⟩:=m.at hm hr;rw[hb]at h1;cases h1;have hlen:((e.es.drop i).take len).length=len:=by simp;omega
   have hin:∀j,j<len*e.sz->i*e.sz+j<cs.size:=λj hj=>by
    have:(i+len)*e.sz<=e.es.length*e.sz:=CP _ hle
    rw[Bv]at this;have:=h2.len;omega
   have hget:∀(q:Nat) (d:D),((e.es.drop i).take len)[q]?=some d->e.es[i+q]?=some d:=λq d hq=>by
    rw[FP]at hq;split at hq
    ·rwa [G3]at hq
    ·cases hq
   refine .inr ⟨_,cap,λj=>cs.getD (i*e.sz+j) undef,by rw[hlen],by omega,λj hj=>?_,λj hj=>?_,λq d hq=>h2.siz _ d (hget q d hq),λq d j c hq hc=>?_⟩
   ·rw[hlen]at hj
    have:=hin j hj
    rw[IF];simp[World.cell?,hb,this]
   ·rw[hlen]at hj
    have h':=hin j hj
    have:=h2.one (i*e.sz+j) (cs[i*e.sz+j]) (B3 h')
    simpa[At,B3 h']using this
   ·have:=h2.rep (i+q) d j c (hget q d hq) hc
    rw[Bv,E5]at this;exact this
 ·cases h
  cases hr;exact .inl ⟨rfl,rfl⟩
def ER (tt:Nat->Option Aw)(H:Hp)(n k:Nat)(g:Operand->D):Op->Option (D×Hp×Prop)
 | .call ⟨.builtin .append,args,tys⟩=>match args.toList with
  | [s,x]=>match tys.toList with
   | [t,t']=>match Nat.beq t t' with
    |true=>match tt t with
     |some i=>match i.ti with
      | .slice e esz eby _=>match IQ H esz (g x)with
       |some (news,p)=>match g s with
        | .osl k1 g1 sz 0 len=>match Hp.get H k1 with
         |some e1=>some (.osl k n esz 0 (len+news.length),⟨k,n,e,esz,e1.es.take len++news⟩::Hp.del H k1,
           p/\g1=e1.g/\sz=e1.sz/\sz=esz/\e1.T=e/\len<=e1.es.length/\(len+news.length)*eby<=140737488355328/\1<=eby/\1<=esz)
         |none=>none
        | .prim (.slice none 0 0)=>some (.osl k n esz 0 news.length,⟨k,n,e,esz,news⟩::H,p/\news.length*eby<=140737488355328/\1<=eby/\1<=esz)
        |_=>none
       |none=>none
      |_=>none
     |none=>none
    |false=>none
   |_=>none
  |_=>none
 |_=>none
theorem TT {P:Program}{t e:Nat}{ty:Nat}{i:TypeInfo}(ht:P.underlying t=some (.slice e))(hi:P.info? e=some i){ao:Option Addr}{len cap:Nat}(hlc:len<=cap):
  (Builtin.append_ #[t,t] ty #[.slice ao len cap,.slice none 0 0]).run P w=.ok (.slice ao len cap) w:=by
 cases ao<;>simp[Builtin.append_,Cy ht,sizeOf,typeInfo,hi,Builtin.lenOf,hlc,run_firstCells_none,storeCells]
theorem an {O:Nat->Prop}{e:Aq}{k g T len:Nat}{news:List D}{f:Nat->Value}{cs cs':Array Value}(h:DY ρ O w e cs)(hl:len<=e.es.length)(hs:Ns ρ O w e.sz news f)
  (hlow:∀q,q<len*e.sz->cs'.getD q undef=cs.getD q undef) (hmid:∀j,j<news.length*e.sz->cs'.getD (len*e.sz+j) undef=f j) (hsize:(len+news.length)*e.sz<=cs'.size)
  (hone:∀(q:Nat) (v:Value),cs'[q]?=some v->one v=true):DY ρ O w ⟨k,g,T,e.sz,e.es.take len++news⟩ cs':=by
 have hlen:(e.es.take len).length=len:=by simp;omega
 have hget:∀(i:Nat) (d:D),(e.es.take len++news)[i]?=some d->(i<len/\e.es[i]?=some d)\/(len<=i/\news[i-len]?=some d):=λi d hd=>by
  rcases BA i len with hi|hi
  ·rw[GL (by omega),FP,AH hi]at hd;exact .inl ⟨hi,hd⟩
  ·rw[Ez (by omega),hlen]at hd;exact .inr ⟨hi,hd⟩
 refine⟨by dsimp only;rw[Bp,hlen];exact hsize,λi d hd=>?_,hone,λi d j c hd hc=>?_⟩
 ·rcases hget i d hd with⟨_,h1⟩|⟨_,h1⟩
  ·exact h.siz i d h1
  ·exact hs.siz _ d h1
 ·dsimp only at hd⊢
  rcases hget i d hd with⟨hi,h1⟩|⟨hi,h1⟩
  ·have hj:j<e.sz:=by rw[<-h.siz i d h1];exact(BQ.1 hc).1
   rw[hlow]
   ·exact h.rep i d j c h1 hc
   ·have:(i+1)*e.sz<=len*e.sz:=CP _ hi
    rw[Bv]at this;omega
  ·have hj:j<e.sz:=by rw[<-hs.siz _ d h1];exact(BQ.1 hc).1
   have hil:i-len<news.length:=(BQ.1 h1).1;have e1:i*e.sz+j=len*e.sz+((i-len)*e.sz+j):=by
    have:i=len+(i-len):=by omega
    conv=>lhs;rw[this,Bv]
    omega
   rw[e1,hmid]
   ·exact hs.rep _ d j c h1 hc
   ·have:(i-len+1)*e.sz<=news.length*e.sz:=CP _ hil
    rw[Bv]at this;omega
structure Ma (P:Program)(t e esz eby:Nat)(ez:Value):Prop where
 under:P.underlying t=some (.slice e)
 inf:∃i:TypeInfo,P.info? e=some i/\i.size=esz/\i.bytes=eby/\i.zero=some ez
 zs:ez.cells.size=esz
 zo:∀(j:Nat) (x:Value),ez.cells[j]?=some x->one x=true
theorem QT {z:Array Value}(hz:∀(j:Nat) (x:Value),z[j]?=some x->one x=true)(n:Nat):∀(q:Nat) (v:Value),(Builtin.zeroCells z n)[q]?=some v->one v=true:=λq v hv=>by
 unfold Builtin.zeroCells at hv;rw[Array.getElem?_map]at hv;cases hr:(Array.range (n*z.size))[q]? with
 |none=>rw[hr]at hv;cases hv
 |some i=>
  rw[hr]at hv;simp only[Jm,BL]at hv;have hi:i<n*z.size:=by
   obtain⟨h1,h2⟩:=C7.1 hr;simp at h2 h1;omega
  have hpos:0<z.size:=by
   rcases ED z.size with h|h
   ·rw[h]at hi;simp at hi
   ·exact h
  have hlt:=B7 i hpos;rw[<-hv,getElem!_pos z (i%z.size) hlt];exact hz (i%z.size) _ (B3 hlt)
theorem j6 {P:Program}{t e esz eby ty:Nat}{ez:Value}(T:Ma P t e esz eby ez){b len cap c:Nat}{cs:Array Value}(hb:w.heap[b]?=some (.cells cs e (0,0)))(hlc:len*esz<=cs.size){news:List D}{a:Addr}{f:Nat->Value}{O:Nat->Prop}
  (hs:ON ρ O w esz news a f) (hg:cap<len+news.length) (hby:(len+news.length)*eby<=140737488355328) (h1:1<=eby):
  (Builtin.append_ #[t,t] ty #[.slice (some ⟨b,0,none⟩) len cap,.slice (some a) news.length c]).run P w =
   .ok (.slice (some ⟨w.heap.size,0,none⟩) (len+news.length) (grownCap w (len+news.length) cap e))
    (w.drew.alloc (.cells ((cs.toList.take (len*esz)).toArray++((List.range (news.length*esz)).map f).toArray++Builtin.zeroCells ez.cells (grownCap w (len+news.length) cap e-(len+news.length))) e)):=by
 obtain⟨i,i1,rfl,rfl,i4⟩:=T.inf;have hmx:len+news.length<=140737488355328:=BT (by have:=Cr (len+news.length) h1;omega) hby;exact run_append_grow (P:=P) w t ty e i ez T.under i1 i4 ⟨b,0,none⟩ len cap (cs.toList.take (len*i.size)) (by simp;omega) (λj v hv=>by
   rw[FP]at hv;split at hv
   ·rw[IF]
    simp only[Jo]at hv;simp[World.cell?,hb,hv]
   ·cases hv) a news.length c ((List.range (news.length*i.size)).map f) (by simp) (λj v hv=>by
   rw[A8]at hv
   by_cases hj:j<news.length*i.size
   ·rw[Jp hj]at hv;cases hv;exact hs.cell j hj
   ·rw[Dy (by simp;omega)]at hv;cases hv) hg (by omega) (growslice_fits hg hby)
structure Sd (P:Program)(w:World)(t u ty e esz eby:Nat)(ez sv:Value)(n:Nat)(f:Nat->Value):Prop where
 room:∀(b len cap:Nat) (cs:Array Value),w.heap[b]?=some (.cells cs e (0,0))->len+n<=cap->len*esz+n*esz<=cs.size ->
  (Builtin.append_ #[t,u] ty #[.slice (some ⟨b,0,none⟩) len cap,sv]).run P w=.ok (.slice (some ⟨b,0,none⟩) (len+n) cap) (w.setRow b (cs.toList.take (len*esz)++(List.range (n*esz)).map f++cs.toList.drop (len*esz+((List.range (n*esz)).map f).length)).toArray)
 grow:∀(b len cap:Nat) (cs:Array Value),w.heap[b]?=some (.cells cs e (0,0))->len*esz<=cs.size->cap<len+n->(len+n)*eby<=140737488355328 ->
  (Builtin.append_ #[t,u] ty #[.slice (some ⟨b,0,none⟩) len cap,sv]).run P w=.ok (.slice (some ⟨w.heap.size,0,none⟩) (len+n) (grownCap w (len+n) cap e))
   (w.drew.alloc (.cells ((cs.toList.take (len*esz)).toArray++((List.range (n*esz)).map f).toArray++Builtin.zeroCells ez.cells (grownCap w (len+n) cap e-(len+n))) e))
 none_:0<n->n*eby<=140737488355328->(Builtin.append_ #[t,u] ty #[.slice none 0 0,sv]).run P w=.ok (.slice (some ⟨w.heap.size,0,none⟩) n (grownCap w n 0 e))
   (w.drew.alloc (.cells (((List.range (n*esz)).map f).toArray++Builtin.zeroCells ez.cells (grownCap w n 0 e-n)) e))
 zero_:n=0->(Builtin.append_ #[t,u] ty #[.slice none 0 0,sv]).run P w=.ok (.slice none 0 0) w
theorem P0 {O:Nat->Prop}{k g sz len cap b T:Nat}{cs:Array Value}{fz:Nat×Nat}(hr:ρ k g=some b)(hb:w.heap[b]?=some (.cells cs T fz))(hc:len<=cap)(hs:cap*sz=cs.size)(hm:cap<=maxLen):
  AV ρ O w (.osl k g sz 0 len) (.slice (some ⟨b,0,none⟩) len cap):=by
 have:=AV.osl (O:=O) (ρ:=ρ) (k:=k) (g:=g) (i:=0) (sz:=sz) (len:=len) hr hb hc (by rw[BZ];exact hs) (by rw[BZ];exact hm)
 rwa [HS]at this
structure LH (C:A9)(F:AY)(H:Hp)(ρ:Lk)(w:World)(n:Nat)(d:D)(H':Hp)(v:Value)(ρ':Lk)(w':World):Prop where
 mem:Ak C F ρ' H' w'
 ext:BX ρ (AM F.X ρ H) w ρ' (AM F.X ρ' H') w'
 far:∀k g',g'≠n->ρ' k g'=ρ k g'
 rep:AV ρ' (AM F.X ρ' H') w' d v
theorem QR {xs ys:Array Value}{q:Nat}(h:q<xs.size):(xs++ys).getD q undef=xs.getD q undef:=by
 simp only[At];rw[G6 h]
theorem jI {xs ys:Array Value}{q:Nat}(h:xs.size<=q):(xs++ys).getD q undef=ys.getD (q-xs.size) undef:=by
 simp only[At];rw[G5 h]
theorem W0 {t e0 esz eby ty n k:Nat}{ez:Value}(T:Ma C.P t e0 esz eby ez){H1 H2:Hp}{e:Aq}{b len cap:Nat}(m:Ak C F ρ (H1++e::H2) w)(hr:ρ e.k e.g=some b)(hT:e.T=e0)(hsz:esz=e.sz)(hle:len<=e.es.length)
  {cs:Array Value} (hbk:w.heap[b]?=some (.cells cs e.T (0,0))) (hcs:cap*esz=cs.size) (hcap:cap<=maxLen) (fr:∀k,ρ k n=none) (hlt:∀e'∈H1++e::H2,e'.g≠n) {news:List D} {f:Nat->Value} {u:Nat} {sv:Value}
  (S:Sd C.P w t u ty e0 esz eby ez sv news.length f) (hs:Ns ρ (AM F.X ρ (H1++e::H2)) w esz news f) (hby:(len+news.length)*eby<=140737488355328) (h1:1<=eby):
  ∃v ρ' w',(Builtin.append_ #[t,u] ty #[.slice (some ⟨b,0,none⟩) len cap,sv]).run C.P w=.ok v w' /\
   LH C F (H1++e::H2) ρ w n (.osl k n esz 0 (len+news.length)) (⟨k,n,e0,esz,e.es.take len++news⟩::(H1++H2)) v ρ' w':=by
 subst hT hsz;obtain⟨cs0,q1,q2⟩:=m.at (e:=e) (by simp) hr;rw[hbk]at q1;cases q1;have hlc:len*e.sz<=cs.size:=BT (CP _ hle) q2.len;have hmx:len+news.length<=maxLen:=by
  have:=Cr (len+news.length) h1
  simp only[maxLen];omega
 have hlim:∀q,q<len*e.sz->q<cs.size:=λq hq=>by omega
 by_cases hroom:len+news.length<=cap
 ·have hfit:len*e.sz+news.length*e.sz<=cs.size:=by rw[<-hcs,<-Bv];exact CP _ hroom
  have run:=S.room b len cap cs hbk hroom hfit;generalize hcs':(cs.toList.take (len*e.sz)++(List.range (news.length*e.sz)).map f++cs.toList.drop (len*e.sz+((List.range (news.length*e.sz)).map f).length)).toArray=cs' at run;have hsz':cs'.size=cs.size:=by rw[<-hcs'];simp;omega
  have get:∀q,cs'[q]?=if q<len*e.sz then cs[q]? else if q<len*e.sz+news.length*e.sz then some (f (q-len*e.sz))else cs[q]?:=λq=>by
   rw[<-hcs'];simp only[Kc];rw[EE];have hl1:(cs.toList.take (len*e.sz)).length=len*e.sz:=by simp;omega
   rcases BA q (len*e.sz)with hq|hq
   ·rw[GL (by omega),AH hq,FP,AH hq];simp
   ·rw[Ez (by omega),CR,hl1]
    rcases BA (q-len*e.sz) (news.length*e.sz)with hq2|hq2
    ·rw[GL (by simp;omega),DQ,A8,Jp hq2];rfl
    ·rw[Ez (by simp;omega),CR,G3]
     simp only[Ag,List.length_range];rw[show len*e.sz+news.length*e.sz+(q-len*e.sz-news.length*e.sz)=q from by omega];simp
  have ho:DY ρ (AM F.X ρ (H1++e::H2)) w ⟨e.k,e.g,e.T,e.sz,e.es.take len++news⟩ cs':=an q2 hle hs
   (λq hq=>by rw[At,get,AH hq,<-At])
   (λj hj=>by rw[At,get,CR,DQ,show len*e.sz+j-len*e.sz=j from by omega];rfl)
   (by rw[hsz',Bv];exact hfit) (λq v hv=>by
    rw[get]at hv;split at hv
    ·exact q2.one _ _ hv
    ·split at hv
     ·cases hv;exact hs.one _ (by omega)
     ·exact q2.one _ _ hv)
  obtain⟨m1,x1⟩:=m.write (e':=⟨e.k,e.g,e.T,e.sz,e.es.take len++news⟩) hr hbk rfl rfl rfl hsz' ho;obtain⟨m2,x2⟩:=m1.rename (e:=⟨e.k,e.g,e.T,e.sz,e.es.take len++news⟩) (k:=k) (n:=n) hr (fr k) (λe' he'=>by
   rcases B0.1 he' with h|h
   ·exact hlt e' (by simp[h])
   ·rcases Az.1 h with rfl|h
    ·exact hlt e (by simp)
    ·exact hlt e' (by simp[h]))
  rw[UC hbk]at run;refine⟨_,ρ.put k n b,_,run,?_⟩;refine⟨m2,x1.trans x2,λk' g' hg=>by unfold Lk.put;rw[AG λh=>hg h.2],?_⟩;have hlt:b<w.heap.size:=(C7.1 hbk).1;exact P0 (b:=b) (T:=e.T) (cs:=cs') (fz:=(0,0)) (Ei _ _ _ _) (by rw[Lz _ _ _ _ _ hlt,AH rfl]) hroom (by rw[hsz',<-hcs]) hcap
 ·have run:=S.grow b len cap cs hbk hlc (Nat.lt_of_not_le hroom) hby
  generalize hcap':grownCap w (len+news.length) cap e.T=cap' at run;have hge:len+news.length<=cap':=by rw[<-hcap'];exact grownCap_ge ..
  have hmx':cap'<=maxLen:=by rw[<-hcap'];exact grownCap_le_maxLen _ _ _ _ hmx
  generalize hcs':(cs.toList.take (len*e.sz)).toArray++((List.range (news.length*e.sz)).map f).toArray++Builtin.zeroCells ez.cells (cap'-(len+news.length))=cs' at run;have s1:(cs.toList.take (len*e.sz)).toArray.size=len*e.sz:=by simp;omega
  have s2:((List.range (news.length*e.sz)).map f).toArray.size=news.length*e.sz:=by simp
  have hsz':cs'.size=cap'*e.sz:=by
   rw[<-hcs',Jq,Jq,s1,s2,size_zeroCells,T.zs,<-Bv,<-Bv]
   congr 1;omega
  obtain⟨m0,hO0⟩:=m.sub (H':=H1++H2) (QA (QC _) (P4 _ _));have x0:BX ρ (AM F.X ρ (H1++e::H2)) w ρ (AM F.X ρ (H1++H2)) w.drew:=
   ⟨Al _,λ_ _ _ h=>h,λb' _ h=>⟨λh'=>h (hO0 b' h'),rfl⟩,λ_ cs _ _ h=>⟨cs,_,h,rfl⟩⟩
  have ho:DY ρ (AM F.X ρ (H1++H2)) w.drew ⟨k,n,e.T,e.sz,e.es.take len++news⟩ cs':=by
   have hlow:∀q,q<len*e.sz->cs'.getD q undef=cs.getD q undef:=λq hq=>by
    rw[<-hcs',QR (by rw[Jq];omega),QR (by omega)];simp only[At,Kc,FP,AH hq];simp
   have hmid:∀j,j<news.length*e.sz->cs'.getD (len*e.sz+j) undef=f j:=λj hj=>by
    rw[<-hcs',QR (by rw[Jq];omega),jI (by omega),s1,show len*e.sz+j-len*e.sz=j from by omega];simp[At,hj]
   refine(an q2 hle hs hlow hmid (by rw[hsz'];exact CP _ hge) λq v hv=>?_).mono x0;rw[<-hcs']at hv;rcases BA q (len*e.sz+news.length*e.sz)with hq|hq
   ·rw[G6 (by rw[Jq];omega)]at hv
    rcases BA q (len*e.sz)with hq2|hq2
    ·rw[G6 (by omega)]at hv
     simp only[Kc,FP,AH hq2]at hv;exact q2.one q v (by simpa using hv)
    ·rw[G5 (by omega),s1]at hv
     simp only[Kc,A8]at hv;rw[Jp (by omega)]at hv;cases hv;exact hs.one _ (by omega)
   ·rw[G5 (by rw[Jq];omega)]at hv
    exact QT T.zo _ _ v hv
  obtain⟨m1,x1⟩:=m0.drew.alloc ⟨k,n,e.T,e.sz,e.es.take len++news⟩ cs' (fr k) (λe' he' h=>hlt e' (by rcases B0.1 he' with h|h<;>simp[h]) h.2) ho;refine⟨_,_,_,run,m1,x0.trans x1,λk' g' hg=>by unfold Lk.put;rw[AG λh=>hg h.2],?_⟩;exact P0 (b:=w.heap.size) (T:=e.T) (cs:=cs') (fz:=(0,0)) (Ei _ _ _ _) (by rw[Ed];exact AH rfl) hge hsz'.symm hmx'
theorem Tf {t e0 esz eby ty:Nat}{P:Program}{O:Nat->Prop}{ez:Value}(T:Ma P t e0 esz eby ez)(h1:1<=eby){news:List D}{a:Addr}{c:Nat}{f:Nat->Value}(hs:ON ρ O w esz news a f):
  Sd P w t t ty e0 esz eby ez (.slice (some a) news.length c) news.length f where
 room b len cap cs hbk hroom hfit:=by
  obtain⟨i,i1,rfl,i3,i4⟩:=T.inf;exact run_append_room (P:=P) w t ty e0 i T.under i1 b len cap cs hbk a news.length c ((List.range (news.length*i.size)).map f) (by simp) (λj v hv=>by
   rw[A8]at hv
   by_cases hj:j<news.length*i.size
   ·rw[Jp hj]at hv;cases hv;exact hs.cell j hj
   ·rw[Dy (by simp;omega)]at hv;cases hv) (λu hu=>by
    rw[cz];obtain⟨j,hj,rfl⟩:=By.1 hu;exact hs.one j (by simpa using hj)) hroom (by simp;exact hfit)
 grow b len cap cs hb hlc hg hby:=j6 (P:=P) (ty:=ty) (c:=c) T hb hlc hs hg hby h1
 none_ h0 hby:=by
  obtain⟨i,i1,rfl,rfl,i4⟩:=T.inf;have hmx:news.length<=maxLen:=by
   have:=Cr news.length h1
   simp only[maxLen];omega
  exact run_append_nil (P:=P) w t ty e0 i ez T.under i1 i4 a news.length c ((List.range (news.length*i.size)).map f) (by simp) (λj v hv=>by
   rw[A8]at hv
   by_cases hj:j<news.length*i.size
   ·rw[Jp hj]at hv;cases hv;exact hs.cell j hj
   ·rw[Dy (by simp;omega)]at hv;cases hv) h0 (by simp only[maxLen]at hmx;omega) (by omega)
 zero_ h0:=by
  obtain⟨i,i1,rfl,rfl,i4⟩:=T.inf;simp[Builtin.append_,Cy T.under,sizeOf,typeInfo,i1,Builtin.lenOf,Builtin.firstCells,loadCells,loadCellsFrom,h0]
theorem append_nil {t e0 esz eby ty n k:Nat}{ez:Value}(T:Ma C.P t e0 esz eby ez)(m:Ak C F ρ H w)(fr:∀k,ρ k n=none)(hlt:∀e'∈H,e'.g≠n){news:List D}{f:Nat->Value}{u:Nat}{sv:Value}
  (S:Sd C.P w t u ty e0 esz eby ez sv news.length f) (hs:Ns ρ (AM F.X ρ H) w esz news f) (hby:news.length*eby<=140737488355328) (h1:1<=eby):
  ∃v ρ' w',(Builtin.append_ #[t,u] ty #[.slice none 0 0,sv]).run C.P w=.ok v w' /\
   LH C F H ρ w n (.osl k n esz 0 news.length) (⟨k,n,e0,esz,news⟩::H) v ρ' w':=by
 rcases ED news.length with h0|h0
 ·have hn:=F6 h0
  subst hn;obtain⟨m1,hO⟩:=m.ghost (k:=k) (n:=n) (T:=e0) (sz:=esz) (fr k);exact⟨.slice none 0 0,ρ,w,S.zero_ rfl,m1,by rw[hO];exact .refl _ _ _,λ_ _ _=>rfl,.onil _ _ _⟩
 ·have hmx:news.length<=maxLen:=by
   have:=Cr news.length h1
   simp only[maxLen];omega
  have run:=S.none_ h0 hby;generalize hcap':grownCap w news.length 0 e0=cap' at run;have hge:news.length<=cap':=by rw[<-hcap'];exact grownCap_ge ..
  have hmx':cap'<=maxLen:=by rw[<-hcap'];exact grownCap_le_maxLen _ _ _ _ hmx
  generalize hcs':((List.range (news.length*esz)).map f).toArray++Builtin.zeroCells ez.cells (cap'-news.length)=cs' at run;have s2:((List.range (news.length*esz)).map f).toArray.size=news.length*esz:=by simp
  have hsz':cs'.size=cap'*esz:=by
   rw[<-hcs',Jq,s2,size_zeroCells,T.zs,<-Bv]
   congr 1;omega
  have hmid:∀j,j<news.length*esz->cs'.getD j undef=f j:=λj hj=>by
   rw[<-hcs',QR (by omega)];simp[At,hj]
  have ho:DY ρ (AM F.X ρ H) w.drew ⟨k,n,e0,esz,news⟩ cs':=by
   refine DY.mono ⟨?_,hs.siz,λq v hv=>?_,λq d j c hd hc=>?_⟩ (BX.drew ρ (AM F.X ρ H) w)
   ·dsimp only;rw[hsz'];exact CP _ hge
   ·rw[<-hcs']at hv
    rcases BA q (news.length*esz)with hq|hq
    ·rw[G6 (by omega)]at hv
     simp only[Kc,A8]at hv;rw[Jp hq]at hv;cases hv;exact hs.one _ hq
    ·rw[G5 (by omega)]at hv
     exact QT T.zo _ _ v hv
   ·dsimp only at hd⊢
    have hj:j<esz:=by rw[<-hs.siz q d hd];exact(BQ.1 hc).1
    have hq:q<news.length:=(BQ.1 hd).1;rw[hmid]
    ·exact hs.rep q d j c hd hc
    ·have:(q+1)*esz<=news.length*esz:=CP _ hq
     rw[Bv]at this;omega
  obtain⟨m1,x1⟩:=m.drew.alloc ⟨k,n,e0,esz,news⟩ cs' (fr k) (λe' he' h=>hlt e' he' h.2) ho;refine⟨_,_,_,run,m1,(BX.drew _ _ _).trans x1,λk' g' hg=>by unfold Lk.put;rw[AG λh=>hg h.2],?_⟩;exact P0 (b:=w.heap.size) (T:=e0) (cs:=cs') (fz:=(0,0)) (Ei _ _ _ _) (by rw[Ed];exact AH rfl) hge hsz'.symm hmx'
theorem Qu {tt:Nat->Option Aw}{o:Oper}{g:Operand->D}{ev:Operand->Value}{n k:Nat}{d:D}{H':Hp}{p:Prop}(htt:Cx C.P tt)(m:Ak C F ρ H w)(fr:∀k,ρ k n=none)(hlt:∀e∈H,e.g≠n)
  (hg:∀x,AV ρ (AM F.X ρ H) w (g x) (ev x)) (h:ER tt H n k g o.op=some (d,H',p)) (hp:p):
  ∃v ρ' w',(execOp ev o).run C.P w=.ok (.value v) w'/\LH C F H ρ w n d H' v ρ' w':=by
 unfold ER at h;split at h<;>try(cases h;done)
 rename_i args tys ho;split at h<;>try(cases h;done)
 rename_i s x hargs;split at h<;>try(cases h;done)
 rename_i t t' htys;split at h<;>try(cases h;done)
 rename_i htt';obtain rfl:=CA htt';split at h<;>try(cases h;done)
 rename_i i hi;split at h<;>try(cases h;done)
 rename_i e esz eby ez hk;split at h<;>try(cases h;done)
 rename_i news q hsrc;obtain⟨k1,⟨inf,k2,k3,k4,k5⟩,k6,k7⟩:=FC (htt _ _ hi) hk;have T:Ma C.P t e esz eby ez:=⟨k1,⟨inf,k2,k3,k4,k5⟩,k6,k7⟩
 have hargs':args = #[s,x]:=by rw[<-S9 (xs:=args),hargs]
 have htys':tys = #[t,t]:=by rw[<-S9 (xs:=tys),htys]
 subst hargs' htys';have fin:∀v1 v2,ev s=v1->ev x=v2->(∃v ρ' w',(Builtin.append_ #[t,t] o.type #[v1,v2]).run C.P w=.ok v w'/\LH C F H ρ w n d H' v ρ' w') ->
   ∃v ρ' w',(execOp ev o).run C.P w=.ok (.value v) w'/\LH C F H ρ w n d H' v ρ' w':=by
  rintro v1 v2 h1 h2 ⟨v,ρ',w',h3,h4⟩;refine⟨v,ρ',w',?_,h4⟩;unfold execOp;simp only[ho,resolve,invoke,builtin,Sem.run_bind,Sem.run_pure,Result.andThen_ok,List.map_toArray,Cs,List.map_nil,h1,h2,h3]
 have hx:=hg x;have hsr:=hg s;generalize hvx:ev x=vx at hx;generalize hvs:ev s=vs at hsr;refine fin vs vx hvs hvx ?_;split at h<;>try(cases h;done)
 ·rename_i k0 g1 sz len hgs
  split at h<;>try(cases h;done)
  rename_i e1 he1;simp only[BL,Bk]at h;obtain⟨rfl,rfl,rfl⟩:=h;obtain⟨hq,rfl,rfl,rfl,rfl,hle,hby,hb1,hs1⟩:=hp;obtain⟨hm,hke⟩:=Hp.get_mem he1;obtain⟨H1,H2,a1,_,a3⟩:=Mj e1 he1;rw[hgs]at hsr;rw[a3];rcases dR m hsrc hq hx with⟨rfl,rfl⟩|⟨a,c,f,rfl,hc,hs⟩
  ·
   simp only[HQ,Dq,Dm];cases hsr with
   |onil=>
    obtain⟨m0,hO0⟩:=m.sub (H':=H1++H2) (by rw[a1];exact QA (QC _) (P4 _ _));obtain⟨m1,hO⟩:=m0.ghost (k:=k) (n:=n) (T:=e1.T) (sz:=e1.sz) (fr k);refine⟨_,ρ,w,TT k1 k2 (Al _),by simpa using m1,?_,λ_ _ _=>rfl,.onil _ _ _⟩;simp only[OC];rw[hO];exact⟨Al _,λ_ _ _ h=>h,λb' _ h=>⟨λh'=>h (hO0 b' h'),rfl⟩,λ_ cs _ _ h=>⟨cs,_,h,rfl⟩⟩
   |osl hr hb hc hs hmx=>
    rename_i cap b T' cs fz;rw[<-hke]at hr;obtain⟨cs0,q1,q2⟩:=m.at hm hr;rw[hb]at q1;cases q1;rw[a1]at m;have q3:DY ρ (AM F.X ρ (H1++e1::H2)) w ⟨e1.k,e1.g,e1.T,e1.sz,e1.es.take len⟩ cs:=by
     rw[<-a1];refine⟨by dsimp only;simp only[Bi];exact BT (CP _ (Nat.min_le_right _ _)) q2.len,λi d hd=>?_,q2.one,λi d j c hd hc=>?_⟩
     ·dsimp only at hd;rw[FP]at hd;split at hd
      ·exact q2.siz i d hd
      ·cases hd
     ·dsimp only at hd⊢;rw[FP]at hd;split at hd
      ·exact q2.rep i d j c hd hc
      ·cases hd
    obtain⟨m1,x1⟩:=m.write (e':=⟨e1.k,e1.g,e1.T,e1.sz,e1.es.take len⟩) hr hb rfl rfl rfl rfl q3;have hsame:World.setBlk w b cs e1.T=w:=by
     unfold World.setBlk
     have:w.heap.setIfInBounds b (.cells cs e1.T (0,0))=w.heap:=by
      apply Array.ext_getElem?;intro q;rw[IX]
      by_cases hq:b=q
      ·subst hq;rw[AH rfl,AH (C7.1 hb).1,hb]
      ·rw[AG hq]
     rw[this]
    rw[hsame]at m1 x1;obtain⟨m2,x2⟩:=m1.rename (e:=⟨e1.k,e1.g,e1.T,e1.sz,e1.es.take len⟩) (k:=k) (n:=n) hr (fr k) (λe' he'=>by
     rcases B0.1 he' with h|h
     ·exact hlt e' (by rw[a1];simp[h])
     ·rcases Az.1 h with rfl|h
      ·exact hlt e1 hm
      ·exact hlt e' (by rw[a1];simp[h]))
    refine⟨_,_,w,TT k1 k2 hc,m2,by rw[a1];exact x1.trans x2,λk' g' hg=>by unfold Lk.put;rw[AG λh=>hg h.2],?_⟩;have fin:=AV.osl (ρ:=ρ.put k n b) (O:=AM F.X (ρ.put k n b) (⟨k,n,e1.T,e1.sz,e1.es.take len⟩::(H1++H2))) (k:=k) (g:=n) (i:=0) (Ei _ _ _ _) hb hc hs hmx;exact fin
  ·cases hsr with
   |onil=>
    obtain⟨m0,hO0⟩:=m.sub (H':=H1++H2) (by rw[a1];exact QA (QC _) (P4 _ _));have x0:BX ρ (AM F.X ρ H) w ρ (AM F.X ρ (H1++H2)) w:=⟨Al _,λ_ _ _ h=>h,λb' _ h=>⟨λh'=>h (hO0 b' h'),rfl⟩,λ_ cs _ _ h=>⟨cs,_,h,rfl⟩⟩
    have hs':Ns ρ (AM F.X ρ (H1++H2)) w e1.sz news f:=⟨hs.one,hs.siz,λi e j d h1 h2=>(hs.rep i e j d h1 h2).mono x0⟩
    obtain⟨v,ρ',w',r1,r2⟩:=append_nil (ty:=o.type) (k:=k) T m0 fr (λe' he'=>hlt e' (by rw[a1];rcases B0.1 he' with h|h<;>simp[h])) (Tf (c:=c) T hb1 hs) hs' (by simpa using hby) hb1;refine⟨v,ρ',w',r1,?_⟩;simp only[BZ,OC,GK];exact⟨r2.mem,x0.trans r2.ext,r2.far,r2.rep⟩
   |osl hr hb hc' hcs hmx=>
    rename_i cap b T' cs fz;rw[<-hke]at hr;obtain⟨cs0,q1,q2⟩:=m.at hm hr;rw[hb]at q1;cases q1;rw[a1]at m hlt hs;obtain⟨v,ρ',w',r1,r2⟩:=W0 (ty:=o.type) (k:=k) T m hr rfl rfl hle hb (by simpa using hcs) (by simpa using hmx) fr hlt (Tf (c:=c) T hb1 hs) hs.srcv hby hb1;rw[a1];refine⟨v,ρ',w',?_,r2⟩;simpa using r1
 ·rename_i hgs
  simp only[BL,Bk]at h;obtain⟨rfl,rfl,rfl⟩:=h;obtain⟨hq,hby,hb1,hs1⟩:=hp;rw[hgs]at hsr;cases hsr;rcases dR m hsrc hq hx with⟨rfl,rfl⟩|⟨a,c,f,rfl,hc,hs⟩
  ·obtain⟨m1,hO⟩:=m.ghost (k:=k) (n:=n) (T:=e) (sz:=esz) (fr k)
   exact⟨_,ρ,w,TT k1 k2 (Al _),m1,by rw[hO];exact .refl _ _ _,λ_ _ _=>rfl,.onil _ _ _⟩
  ·exact append_nil (ty:=o.type) (k:=k) T m fr hlt (Tf (c:=c) T hb1 hs) hs.srcv hby hb1
end
section
variable {C:A9} {F:AY} {s:St} {ops:Array Oper} {o:Oper} {os:List Oper} {K:St->Prop}
theorem Wa:∀ {H:Hp} {k:Nat} {e:Aq},e∈Hp.del H k->e∈H
 |e0::r,k,e,h=>by
  simp only[Hp.del]at h;split at h
  ·exact CT _ h
  ·rcases Az.1 h with rfl|h
   ·exact CO ..
   ·exact CT _ (Wa h)
theorem pP {tt:Nat->Option Aw}{H:Hp}{n k:Nat}{g:Operand->D}{op:Op}{d:D}{H':Hp}{p:Prop}(h:ER tt H n k g op=some (d,H',p))(hl:∀e∈H,e.g<n):∀e∈H',e.g<n+1:=by
 unfold ER at h
 (repeat' split at h)<;>try(cases h;done)
 ·cases h
  intro e he;rcases Az.1 he with rfl|he
  ·exact Hz _
  ·exact Dc (hl e (Wa he))
 ·cases h
  intro e he;rcases Az.1 he with rfl|he
  ·exact Hz _
  ·exact Dc (hl e he)
theorem iX {tt:Nat->Option Aw}(k:Nat)(htt:Cx C.P tt){d:D}{H':Hp}{p:Prop}(hw:CN ops s.env o=some true)(he:ER tt s.H s.n k (BF s.env) o.op=some (d,H',p))(hp:p)
  (h:BH C F ops os ⟨Bf s.env o.dst d,H',s.n+1⟩ K):BH C F ops (o::os) s K:=
 BH.step hw (λρ a w hs=>by
  obtain⟨v,ρ',w',h1,h2⟩:=Qu htt hs.mem (λk=>hs.fresh k _ (Al _)) (λe he=>Nat.ne_of_lt (hs.gen e he)) (De hs.env) he hp;exact⟨v,ρ',w',.inl h1,⟨h2.mem,h2.ext,λk g hg=>by rw[h2.far k g (by omega)];exact hs.fresh k g (by omega),h2.rep⟩,pP he hs.gen⟩) h
end
def Iq (s:ByteArray):List D:=s.data.toList.map λb=>.prim (.int .u8 (b.toNat:Int))
theorem Ju (s:ByteArray):(Iq s).length=s.size:=by
 unfold Iq;rw[Ag,IW];rfl
def KG (s:ByteArray)(j:Nat):Value:=.int .u8 ((s.data.toList.getD j 0).toNat:Int)
theorem TU (s:ByteArray):(List.range (s.size*1)).map (KG s)=Lib.strCells s:=by
 refine QE λj=>?_
 have hs:s.data.toList.length=s.size:=by rw[IW];rfl
 rw[EO,A8,Lib.strCells,A8];rcases BA j s.size with h|h
 ·rw[Jp h,Cf]
  simp[KG,Do,Bo (show j<s.data.toList.length by omega)]
 ·rw[Dy (by simp;omega),Dy (by omega)];rfl
section
variable {C:A9} {F:AY} {ρ:Lk} {H:Hp} {w:World}
theorem Th {O:Nat->Prop}(s:ByteArray):Ns ρ O w 1 (Iq s) (KG s) where
 one _ _:=rfl
 siz i e h:=by
  unfold Iq at h;rw[A8]at h;obtain⟨b,_,rfl⟩:=Er.1 h;rfl
 rep i e j d h1 h2:=by
  unfold Iq at h1;rw[A8]at h1;obtain⟨b,hb,rfl⟩:=Er.1 h1;rcases j with _|j
  ·cases h2
   have:KG s (i*1+0)=.int .u8 (b.toNat:Int):=by
    unfold KG;rw[EO,Dq,Do,hb];rfl
   rw[this];exact .prim _
  ·simp[D.cells]at h2
theorem XE {P:Program}{t u ty e0:Nat}(T:Ma P t e0 1 1 (.int .u8 0))(hu:P.underlying u=some .string)(s:ByteArray):
  Sd P w t u ty e0 1 1 (.int .u8 0) (.string s) s.size (KG s) where
 room b len cap cs hbk hroom hfit:=by
  obtain⟨i,i1,i2,i3,i4⟩:=T.inf;rw[TU,Lib.strCells_length,EO];exact Lib.run_append_room_string w t u ty e0 i T.under hu i1 i2 b len cap cs hbk s hroom (by omega)
 grow b len cap cs hb hlc hg hby:=by
  obtain⟨i,i1,i2,i3,i4⟩:=T.inf;rw[TU];rw[EO]at hlc⊢;exact Lib.run_append_grow_string w t u ty e0 i (.int .u8 0) T.under hu i1 i4 ⟨b,0,none⟩ len cap (cs.toList.take len) (by rw[i2];simp;omega) (λj v hv=>by
   rw[FP]at hv;split at hv
   ·rw[IF]
    simp only[Jo]at hv;simp[World.cell?,hb,hv]
   ·cases hv) s hg (by omega) (by rw[i3];exact growslice_fits hg (by omega))
 none_ h0 hby:=by
  obtain⟨i,i1,i2,i3,i4⟩:=T.inf;have hr:=run_append_nil_string (P:=P) w t u ty e0 i (.int .u8 0) T.under hu i1 i4 s (by omega) (by omega) (by rw[i3];omega);have e1:(s.data.map λb=>Value.int .u8 b.toNat)=(Lib.strCells s).toArray:=by
   apply Array.ext';simp[Lib.strCells]
  rw[TU,<-e1];exact hr
 zero_ h0:=by
  obtain⟨i,i1,i2,i3,i4⟩:=T.inf;have hf:=Lib.run_firstCells_string (P:=P) w 1 s;rw[h0]at hf;simp[Builtin.append_,Cy T.under,Cy hu,sizeOf,typeInfo,i1,i2,Builtin.lenOf,h0,hf]
def Nw (tt:Nat->Option Aw)(H:Hp)(n k:Nat)(g:Operand->D):Op->Option (D×Hp×Prop)
 | .call ⟨.builtin .append,args,tys⟩=>match args.toList with
  | [s,x]=>match tys.toList with
   | [t,t']=>match tt t' with
    |some i'=>match i'.ti with
     | .string=>match tt t with
      |some i=>match i.ti with
       | .slice e esz eby ez=>match g x with
        | .prim (.string str)=>match g s with
         | .osl k1 g1 sz 0 len=>match Hp.get H k1 with
          |some e1=>some (.osl k n 1 0 (len+str.size),⟨k,n,e,1,e1.es.take len++Iq str⟩::Hp.del H k1,
            esz=1/\eby=1/\ez=.int .u8 0/\g1=e1.g/\sz=e1.sz/\sz=1/\e1.T=e/\len<=e1.es.length/\len+str.size<=140737488355328)
          |none=>none
         | .prim (.slice none 0 0)=>some (.osl k n 1 0 str.size,⟨k,n,e,1,Iq str⟩::H,esz=1/\eby=1/\ez=.int .u8 0/\str.size<=140737488355328)
         |_=>none
        |_=>none
       |_=>none
      |none=>none
     |_=>none
    |none=>none
   |_=>none
  |_=>none
 |_=>none
theorem ju {tt:Nat->Option Aw}{o:Oper}{g:Operand->D}{ev:Operand->Value}{n k:Nat}{d:D}{H':Hp}{p:Prop}(htt:Cx C.P tt)(m:Ak C F ρ H w)(fr:∀k,ρ k n=none)(hlt:∀e∈H,e.g≠n)
  (hg:∀x,AV ρ (AM F.X ρ H) w (g x) (ev x)) (h:Nw tt H n k g o.op=some (d,H',p)) (hp:p):
  ∃v ρ' w',(execOp ev o).run C.P w=.ok (.value v) w'/\LH C F H ρ w n d H' v ρ' w':=by
 unfold Nw at h;split at h<;>try(cases h;done)
 rename_i args tys ho;split at h<;>try(cases h;done)
 rename_i s x hargs;split at h<;>try(cases h;done)
 rename_i t t' htys;split at h<;>try(cases h;done)
 rename_i i' hi';split at h<;>try(cases h;done)
 rename_i hk';split at h<;>try(cases h;done)
 rename_i i hi;split at h<;>try(cases h;done)
 rename_i e esz eby ez hk;split at h<;>try(cases h;done)
 rename_i str hgx;have hu:=Lu (htt _ _ hi') hk';obtain⟨k1,⟨inf,k2,k3,k4,k5⟩,k6,k7⟩:=FC (htt _ _ hi) hk;have T0:Ma C.P t e esz eby ez:=⟨k1,⟨inf,k2,k3,k4,k5⟩,k6,k7⟩
 have hargs':args = #[s,x]:=by rw[<-S9 (xs:=args),hargs]
 have htys':tys = #[t,t']:=by rw[<-S9 (xs:=tys),htys]
 subst hargs' htys';have fin:∀v1 v2,ev s=v1->ev x=v2->(∃v ρ' w',(Builtin.append_ #[t,t'] o.type #[v1,v2]).run C.P w=.ok v w'/\LH C F H ρ w n d H' v ρ' w') ->
   ∃v ρ' w',(execOp ev o).run C.P w=.ok (.value v) w'/\LH C F H ρ w n d H' v ρ' w':=by
  rintro v1 v2 h1 h2 ⟨v,ρ',w',h3,h4⟩;refine⟨v,ρ',w',?_,h4⟩;unfold execOp;simp only[ho,resolve,invoke,builtin,Sem.run_bind,Sem.run_pure,Result.andThen_ok,List.map_toArray,Cs,List.map_nil,h1,h2,h3]
 have hx:=hg x;have hsr:=hg s;generalize hvx:ev x=vx at hx;generalize hvs:ev s=vs at hsr;refine fin vs vx hvs hvx ?_;rw[hgx]at hx;cases hx;split at h<;>try(cases h;done)
 ·rename_i k0 g1 sz len hgs
  split at h<;>try(cases h;done)
  rename_i e1 he1;simp only[BL,Bk]at h;obtain⟨rfl,rfl,rfl⟩:=h;obtain⟨rfl,rfl,rfl,rfl,q1,rfl,rfl,hle,hby⟩:=hp;have T:=T0;obtain⟨hm,hke⟩:=Hp.get_mem he1;obtain⟨H1,H2,a1,_,a3⟩:=Mj e1 he1;rw[hgs]at hsr;rw[a3];have S:=XE (w:=w) (ty:=o.type) T hu str;cases hsr with
  |onil=>
   obtain⟨m0,hO0⟩:=m.sub (H':=H1++H2) (by rw[a1];exact QA (QC _) (P4 _ _));have x0:BX ρ (AM F.X ρ H) w ρ (AM F.X ρ (H1++H2)) w:=⟨Al _,λ_ _ _ h=>h,λb' _ h=>⟨λh'=>h (hO0 b' h'),rfl⟩,λ_ cs _ _ h=>⟨cs,_,h,rfl⟩⟩
   obtain⟨v,ρ',w',r1,r2⟩:=append_nil (ty:=o.type) (k:=k) (news:=Iq str) (f:=KG str) T m0 fr (λe' he'=>hlt e' (by rw[a1];rcases B0.1 he' with h|h<;>simp[h])) (by rw[Ju];exact S) (Th str) (by rw[Ju];omega) (Al _);refine⟨v,ρ',w',r1,?_⟩;simp only[BZ,OC,GK];rw[Ju]at r2;exact⟨r2.mem,x0.trans r2.ext,r2.far,r2.rep⟩
  |osl hr hb hc' hcs hmx=>
   rename_i cap b T' cs fz;rw[<-hke]at hr;obtain⟨cs0,q2,q3⟩:=m.at hm hr;rw[hb]at q2;cases q2;rw[a1]at m hlt;obtain⟨v,ρ',w',r1,r2⟩:=W0 (ty:=o.type) (k:=k) (news:=Iq str) (f:=KG str) T m hr rfl q1 hle hb (by simpa using hcs) (by simpa using hmx) fr hlt (by rw[Ju];exact S) (Th str) (by rw[Ju];omega) (Al _);rw[a1];refine⟨v,ρ',w',?_,?_⟩
   ·simpa using r1
   ·rw[Ju]at r2;exact r2
 ·rename_i hgs
  simp only[BL,Bk]at h;obtain⟨rfl,rfl,rfl⟩:=h;obtain⟨rfl,rfl,rfl,hby⟩:=hp;have T:=T0;rw[hgs]at hsr;cases hsr;have S:=XE (w:=w) (ty:=o.type) T hu str;obtain⟨v,ρ',w',r1,r2⟩:=append_nil (ty:=o.type) (k:=k) (news:=Iq str) (f:=KG str) T m fr hlt (by rw[Ju];exact S) (Th str) (by rw[Ju];omega) (Al _);rw[Ju]at r2;exact⟨v,ρ',w',r1,r2⟩
end
section
variable {C:A9} {F:AY} {s:St} {ops:Array Oper} {o:Oper} {os:List Oper} {K:St->Prop}
theorem oN {tt:Nat->Option Aw}{H:Hp}{n k:Nat}{g:Operand->D}{op:Op}{d:D}{H':Hp}{p:Prop}(h:Nw tt H n k g op=some (d,H',p))(hl:∀e∈H,e.g<n):∀e∈H',e.g<n+1:=by
 unfold Nw at h
 (repeat' split at h)<;>try(cases h;done)
 ·cases h
  intro e he;rcases Az.1 he with rfl|he
  ·exact Hz _
  ·exact Dc (hl e (Wa he))
 ·cases h
  intro e he;rcases Az.1 he with rfl|he
  ·exact Hz _
  ·exact Dc (hl e he)
theorem d9M {tt:Nat->Option Aw}(k:Nat)(htt:Cx C.P tt){d:D}{H':Hp}{p:Prop}(hw:CN ops s.env o=some true)(he:Nw tt s.H s.n k (BF s.env) o.op=some (d,H',p))(hp:p)
  (h:BH C F ops os ⟨Bf s.env o.dst d,H',s.n+1⟩ K):BH C F ops (o::os) s K:=
 BH.step hw (λρ a w hs=>by
  obtain⟨v,ρ',w',h1,h2⟩:=ju htt hs.mem (λk=>hs.fresh k _ (Al _)) (λe he=>Nat.ne_of_lt (hs.gen e he)) (De hs.env) he hp;exact⟨v,ρ',w',.inl h1,⟨h2.mem,h2.ext,λk g hg=>by rw[h2.far k g (by omega)];exact hs.fresh k g (by omega),h2.rep⟩,oN he hs.gen⟩) h
end
inductive XI where
 |map (key elem:Nat) (zero:Value)
 |strs (n:Nat)
def Oc (P:Program):Nat->List Field->Bool
 |_,[]=>true
 |i,f::fs=>(f.name != "_")&&Nat.beq f.offset i&&(match P.underlying f.type with|some .string=>true|_=>false)&&Oc P (i+1) fs
def MU (P:Program)(t:Nat):Option XI:=match P.underlying t with
 |some (.map k e)=>match P.underlying k with
  |some .string=>match P.info? e with
   |some i=>match i.zero with
    |some z=>match LK z i.size with
     |true=>some (.map k e z)
     |false=>none
    |none=>none
   |none=>none
  |_=>none
 |some (.struct fs)=>match P.stoodInHeld t||P.eqGuardType P.depth t with
  |false=>match Oc P 0 fs.toList with
   |true=>some (.strs fs.size)
   |false=>none
  |true=>none
 |_=>none
def Me (P:Program)(xt:Nat->Option XI):Prop:=∀t i,xt t=some i->MU P t=some i
def HH (s:ByteArray):List D->List D->Option (Option D)
 | [],[]=>some none
 | .prim (.string k)::ks,d::vs=>match BI s k with
  |true=>some (some d)
  |false=>HH s ks vs
 |_,_=>none
def HE:List D->List D->Option Bool
 | [],[]=>some true
 | .prim (.string a)::l,.prim (.string b)::l'=>match HE l l' with
  |some r=>some (BI a b&&r)
  |none=>none
 |_,_=>none
def Gh (ok:Bool)(d:D)(b:Bool):D:=match ok with
 |true=>.tup [d,.prim (.bool b)]
 |false=>d
def fB:TI->Bool
 | .other | .ptr=>false
 |_=>true
def E8 (tt:Nat->Option Aw)(xt:Nat->Option XI)(g:Operand->D):Op->Option (D×Prop)
 | .makeInterface t x=>match tt t with
  |some i=>match fB i.ti with
   |true=>some (.ifc t (g x),True)
   |false=>none
  |none=>none
 | .lookup t x ix ok=>match xt t with
  |some (.map _ _ z)=>match g x with
   | .mp ks vs=>match g ix with
    | .prim (.string s)=>match HH s ks vs with
     |some (some d)=>some (Gh ok d true,True)
     |some none=>some (Gh ok (ofV z) false,True)
     |none=>none
    |_=>none
   |_=>none
  |_=>none
 | .binOp op t x y _=>match xt t with
  |some (.strs n)=>match g x with
   | .agg l=>match g y with
    | .agg l'=>match HE l l' with
     |some b=>match N5 op b with
      |some c=>some (.prim (.bool c),Nat.beq l.length n=true)
      |none=>none
     |none=>none
    |_=>none
   |_=>none
  |_=>none
 |_=>none
section
variable {P:Program} {ρ:Lk} {O:Nat->Prop} {w:World}
theorem UF (a b:ByteArray):(a==b)=BI a b:=beq_toListBytes a b
theorem Xq {s:ByteArray}:∀ {ks vs:List D} {es:List MapEntry} {r:Option D} (i:Nat),HH s ks vs=some r->es.length=ks.length->es.length=vs.length ->
  (∀(j:Nat) (d:D),ks[j]?=some d->AV ρ O w d (es.getD j default).key)->(∀(j:Nat) (d:D),vs[j]?=some d->AV ρ O w d (es.getD j default).val) ->
  (match r with
   |none=>Instr.findNow .string (.string s) es i=some none
   |some d=>∃j v,Instr.findNow .string (.string s) es i=some (some (j,v))/\AV ρ O w d v)
 | [],[],[],r,i,h,_,_,_,_=>by simp only[HH,BL]at h;subst h;rfl
 |k::ks,v::vs,e::es,r,i,h,h1,h2,hk,hv=>by
  obtain⟨kb,rfl⟩:∃a,k=.prim (.string a):=by
   unfold HH at h;split at h<;>try(cases h;done)
   ·simp at*
   ·rename_i h1 _;cases h1;exact⟨_,rfl⟩
  simp only[HH]at h;have h0:e.key=.string kb:=by
   have:=hk 0 _ rfl
   simp at this;generalize e.key=q at this;cases this;rfl
  have h3:Instr.findNow .string (.string s) (e::es) i=(match Instr.sameNow .string (.string s) e.key with
    |some true=>some (some (i,e.val))|some false=>Instr.findNow .string (.string s) es (i+1)|none=>none):=rfl
  rw[h0]at h3;have h4:Instr.sameNow .string (.string s) (.string kb)=some (BI s kb):=by
   show some (s==kb)=_;rw[UF]
  rw[h4]at h3;cases hb:BI s kb with
  |true=>
   rw[hb]at h h3;simp only[BL]at h;subst h;exact⟨i,e.val,h3,by simpa using hv 0 v rfl⟩
  |false=>
   rw[hb]at h h3;dsimp only at h h3;rw[h3];exact Xq (i+1) h (by simpa using h1) (by simpa using h2) (λj d hd=>by simpa using hk (j+1) d (by simpa using hd)) (λj d hd=>by simpa using hv (j+1) d (by simpa using hd))
 | [],_::_,_,_,_,h,_,_,_,_=>by simp[HH]at h
 | [],[],_::_,_,_,_,h1,_,_,_=>by simp at h1
 |_::_,[],[],_,_,_,h1,_,_,_=>by simp at h1
 |_::_,[],_::_,_,_,_,_,h2,_,_=>by simp at h2
 |_::_,_::_,[],_,_,_,h1,_,_,_=>by simp at h1
theorem Of {t k e:Nat}{z:Value}(h:MU P t=some (.map k e z)):P.underlying t=some (.map k e)/\P.underlying k=some .string/\(∃i,P.info? e=some i/\i.zero=some z) /\
  ∀(j:Nat) (x:Value),z.cells[j]?=some x->one x=true:=by
 unfold MU at h;split at h<;>try(cases h;done)
 ·rename_i k' e' h1
  split at h<;>try(cases h;done)
  rename_i h2;split at h<;>try(cases h;done)
  rename_i i h3;split at h<;>try(cases h;done)
  rename_i z' h4;split at h<;>try(cases h;done)
  rename_i h5;cases h;exact⟨h1,h2,⟨i,h3,h4⟩,(OQ h5).2⟩
 ·(repeat' split at h)<;>cases h
theorem kR {t n:Nat}(h:MU P t=some (.strs n)):∃fs:Array Field,P.underlying t=some (.struct fs)/\P.stoodInHeld t=false/\P.eqGuardType P.depth t=false/\Oc P 0 fs.toList=true/\fs.size=n:=by
 unfold MU at h;split at h<;>try(cases h;done)
 ·(repeat' split at h)<;>cases h
 ·rename_i fs h1
  split at h<;>try(cases h;done)
  rename_i h2;split at h<;>try(cases h;done)
  rename_i h3;cases h;simp only[I8]at h2;exact⟨fs,h1,h2.1,h2.2,h3,rfl⟩
theorem Xb:∀ {l l':List D} {b:Bool},HE l l'=some b->l.length=l'.length
 | [],[],_,_=>rfl
 | [],_::_,_,h=>by simp[HE]at h
 |c::l,[],_,h=>by
  unfold HE at h;split at h
  ·simp at*
  ·simp at*
  ·cases h
 |c::l,c'::l',b,h=>by
  unfold HE at h;split at h
  ·simp at*
  ·rename_i h1 h2
   cases h1;cases h2;split at h
   ·rename_i hr;simp[Xb hr]
   ·cases h
  ·cases h
theorem Ws (d:Nat){xs ys:Array Value}:∀(fs:List Field) (i:Nat) (l l':List D) (b:Bool),Oc P i fs=true->HE l l'=some b->l.length=fs.length ->
  (∀(j:Nat) (c:D),l[j]?=some c->AV ρ O w c (xs.getD (i+j) undef))->(∀(j:Nat) (c:D),l'[j]?=some c->AV ρ O w c (ys.getD (i+j) undef)) ->
  (∀j,j<fs.length->i+j<xs.size/\i+j<ys.size)->(Op.eqFields (d+1) xs ys fs).run P w=.ok b w
 | [],i,[],l',b,_,h,_,_,_,_=>by
  cases l' with
  |nil=>simp only[HE,BL]at h;subst h;rfl
  |cons=>simp[HE]at h
 |f::fs,i,c::l,l',b,hf,h,hl,hx,hy,hin=>by
  cases l' with
  |nil=>simp[HE]at h
  |cons c' l'=>
   obtain⟨a,rfl⟩:∃a,c=.prim (.string a):=by
    unfold HE at h;split at h<;>try(cases h;done)
    ·simp at*
    ·rename_i h1 _;cases h1;exact⟨_,rfl⟩
   obtain⟨a',rfl⟩:∃a,c'=.prim (.string a):=by
    unfold HE at h;split at h<;>try(cases h;done)
    ·simp at*
    ·rename_i _ h1;cases h1;exact⟨_,rfl⟩
   simp only[HE]at h;cases hr:HE l l' with
   |none=>simp[hr]at h
   |some r=>
    simp only[hr,BL]at h;simp only[Oc,Ba]at hf;obtain⟨⟨⟨f1,f2⟩,f3⟩,f4⟩:=hf;have f2:=CA f2;have f3:P.underlying f.type=some .string:=by split at f3<;>first|assumption|cases f3
    have hxa:xs[i]?=some (.string a):=by
     have:=hx 0 _ rfl
     rw[Dq]at this;have hlt:=(hin 0 (by simp)).1;rw[Dq]at hlt;rw[At,B3 hlt,IZ]at this;rw[B3 hlt];generalize xs[i]=q at this;cases this;rfl
    have hya:ys[i]?=some (.string a'):=by
     have:=hy 0 _ rfl
     rw[Dq]at this;have hlt:=(hin 0 (by simp)).2;rw[Dq]at hlt;rw[At,B3 hlt,IZ]at this;rw[B3 hlt];generalize ys[i]=q at this;cases this;rfl
    have ag:(isAgg f.type).run P w=.ok false w:=by
     unfold isAgg;rw[run_bind,Cy f3];rfl
    have part1:(part f.type xs f.offset).run P w=.ok (.string a) w:=by
     unfold part;rw[run_bind,ag];dsimp only;rw[AG (by simp),f2];simp only[hxa];rfl
    have part2:(part f.type ys f.offset).run P w=.ok (.string a') w:=by
     unfold part;rw[run_bind,ag];dsimp only;rw[AG (by simp),f2];simp only[hya];rfl
    have hne:f.name ≠ "_":=by simpa using f1
    simp only[Op.eqFields];rw[AH hne,run_bind,part1];dsimp only;rw[run_bind,part2];dsimp only;rw[run_bind,run_equalIn_string w d f.type a a' f3];dsimp only;have ih:=Ws d fs (i+1) l l' r f4 hr (by simpa using hl) (λj c hc=>by have:=hx (j+1) c (by simpa using hc);rwa [show i+(j+1)=i+1+j from by omega]at this)
     (λj c hc=>by have:=hy (j+1) c (by simpa using hc);rwa [show i+(j+1)=i+1+j from by omega]at this) (λj hj=>by have:=hin (j+1) (by simp;omega);omega)
    subst h;cases hb:BI a a' with
    |true=>
     unfold BI at hb;rw[hb];simpa using ih
    |false=>
     unfold BI at hb;rw[hb];rfl
 | [],_,_::_,_,_,_,_,h,_,_,_=>by simp at h
 |_::_,_,[],_,_,_,_,h,_,_,_=>by simp at h
theorem nv {t:Nat}{i:Aw}(h:EX P t=some i)(hc:fB i.ti=true):∃u,P.underlying t=some u/\∀ms,u≠.interface ms:=by
 cases hk:i.ti with
 |int k=>exact⟨_,Yc h hk,by simp⟩
 |bool=>exact⟨_,XW h hk,by simp⟩
 |string=>exact⟨_,Lu h hk,by simp⟩
 |struct fs=>obtain⟨a,h1,_⟩:=TX h hk;exact⟨_,h1,by simp⟩
 |slice e a b c=>exact⟨_,(FC h hk).1,by simp⟩
 |arr n e a=>obtain⟨a,h1,_⟩:=T3 h hk;exact⟨_,h1,by simp⟩
 |ptr=>rw[hk]at hc;cases hc
 |other=>rw[hk]at hc;cases hc
theorem au {tt:Nat->Option Aw}{xt:Nat->Option XI}{o:Oper}{g:Operand->D}{ev:Operand->Value}{d:D}{p:Prop}(htt:Cx P tt)(hxt:Me P xt)(hg:∀x,AV ρ O w (g x) (ev x))
  (h:E8 tt xt g o.op=some (d,p)) (hp:p):∃v,(execOp ev o).run P w=.ok (.value v) w/\AV ρ O w d v:=by
 unfold execOp;unfold E8 at h;split at h<;>try(cases h;done)
 ·rename_i t x ho
  simp only[ho];split at h<;>try(cases h;done)
  rename_i i hi;split at h<;>try(cases h;done)
  rename_i hc;cases h;obtain⟨u,h1,h2⟩:=nv (htt _ _ hi) hc;refine⟨.iface t (ev x),?_,.ifc (hg x)⟩;rw[run_bind]
  have:(Instr.makeInterface t (ev x)).run P w=.ok (.iface t (ev x)) w:=by
   unfold Instr.makeInterface;rw[run_bind,Cy h1];dsimp only;split
   ·rename_i ms;exact Af rfl (h2 ms)
   ·rfl
  rw[this];rfl
 ·rename_i t x ix ok ho
  simp only[ho];split at h<;>try(cases h;done)
  rename_i k e z hi;split at h<;>try(cases h;done)
  rename_i ks vs hgx;split at h<;>try(cases h;done)
  rename_i s hgi;obtain⟨a1,a2,⟨inf,a3,a4⟩,a5⟩:=Of (hxt _ _ hi);have hx:=hg x;have hy:=hg ix;rw[hgx]at hx;rw[hgi]at hy;generalize ev x=vx at hx;generalize ev ix=vi at hy;cases hy;cases hx with
  |mp hO hr hb h1 h2 hB hk hv=>
   rename_i r clock es;have hc:(Instr.checkKey es.isEmpty 10000 k (.string s)).run P w=.ok () w:=MapKept.run_checkKey (k:=.string s) a2 (by simp[MapKept.IsKey]) _ 9999;have hz:(zeroValue e).run P w=.ok z w:=QS a3 a4 w;have find:∀q,HH s ks vs=some q->_:=λq hq=>Xq (ρ:=ρ) (O:=O) (w:=w) (es:=es.toList) 0 hq (by simpa using h1) (by simpa using h2) (λj d hd=>by simpa[At]using hk j d hd) (λj d hd=>by simpa[At]using hv j d hd)
   have okR:∀(d:D) (v:Value) (b:Bool),AV ρ O w d v->AV ρ O w (Gh ok d b) (if ok then .tuple #[v,.bool b]else v):=by
    intro d v b hr;cases ok with
    |false=>exact hr
    |true=>
     refine .tup rfl λi d' hd=>?_
     match i with
     | 0=>simp at hd;subst hd;exact hr
     | 1=>simp at hd;subst hd;exact .prim _
     |n+2=>simp at hd
   split at h<;>try(cases h;done)
   ·rename_i d' hq
    cases h;obtain⟨j,v,hf,hr'⟩:=find _ hq;refine⟨_,?_,okR _ v true hr'⟩;rw[run_bind]
    have:(Instr.lookup t (.map (some r)) (.string s) ok).run P w=.ok (if ok then .tuple #[v,.bool true]else v) w:=by
     simp[Instr.lookup,Cy a1,MapKept.run_getObj_map hb,hc,MapKept.run_findKey a2 hf,Result.andThen]
    rw[this];rfl
   ·rename_i hq
    cases h;have hf:=find _ hq;refine⟨_,?_,okR _ z false (.ofV λi x hx=>.inl (a5 i x hx))⟩;rw[run_bind]
    have:(Instr.lookup t (.map (some r)) (.string s) ok).run P w=.ok (if ok then .tuple #[z,.bool false]else z) w:=by
     simp[Instr.lookup,Cy a1,MapKept.run_getObj_map hb,hc,MapKept.run_findKey a2 hf,hz,Result.andThen]
    rw[this];rfl
 ·rename_i op t x y yt ho
  simp only[ho];split at h<;>try(cases h;done)
  rename_i n hi;split at h<;>try(cases h;done)
  rename_i l hgx;split at h<;>try(cases h;done)
  rename_i l' hgy;split at h<;>try(cases h;done)
  rename_i b hb;split at h<;>try(cases h;done)
  rename_i c hn;cases h;obtain⟨fs,a1,a2,a3,a4,a5⟩:=kR (hxt _ _ hi);have hx:=hg x;have hy:=hg y;rw[hgx]at hx;rw[hgy]at hy;generalize ev x=vx at hx;generalize ev y=vy at hy;have hp:=CA hp;have hl':=Xb hb;cases hx with
  |agg n1 o1 r1=>
   cases hy with
   |agg n2 o2 r2=>
    rename_i xs ys;have eqf:P.fieldsOf t=fs:=by unfold Program.fieldsOf;rw[a1]
    have run:(Op.equalIn 10000 t (.agg xs) (.agg ys)).run P w=.ok b w:=by
     rw[show(10000:Nat)=9998+1+1 from rfl,run_equalIn_struct w _ t xs ys (by rw[eqf];exact a1) a2,eqf];exact Ws (ρ:=ρ) (O:=O) 9998 fs.toList 0 l l' b a4 hb (by simp;omega) (λj c hc=>by rw[BZ];exact r1 j c hc) (λj c hc=>by rw[BZ];exact r2 j c hc)
      (λj hj=>by simp at hj;omega)
    refine⟨.bool c,?_,.prim _⟩;have r3:(do eqGuard op t x y (.agg xs) (.agg ys);binOp op t (.agg xs) (.agg ys):Sem Value).run P w=.ok (.bool c) w:=by
     rw[run_bind,run_eqGuard_agg w op t x y xs ys a3];dsimp only;unfold N5 at hn;cases op<;>simp only[BL,reduceCtorEq]at hn
     ·subst hn;rw[run_eql_struct,run];rfl
     ·subst hn;rw[run_neq_struct,run];rfl
    rw[run_bind,r3];rfl
end
def Kg (tt:Nat->Option Aw)(n k:Nat)(g:Operand->D):Op->Option (D×Aq×Prop)
 | .makeSlice t l c=>match tt t with
  |some i=>match i.ti with
   | .slice e esz eby ez=>match g l with
    | .prim (.int _ a)=>match g c with
     | .prim (.int _ b)=>some (.osl k n esz 0 a.toNat,⟨k,n,e,esz,List.replicate a.toNat (ofV ez)⟩,0<=a/\a<=b/\(eby:Int)*b<=281474976710656/\b<=9223372036854775807)
     |_=>none
    |_=>none
   |_=>none
  |none=>none
 |_=>none
section
variable {C:A9} {F:AY} {s:St} {ops:Array Oper} {o:Oper} {os:List Oper} {K:St->Prop} {ρ:Lk} {H:Hp} {w:World}
theorem ZI {α:Type}{n i:Nat}{x d:α}(h:(List.replicate n x)[i]?=some d):i<n/\x=d:=by
 rw[List.getElem?_replicate]at h;split at h
 ·rename_i hi;exact⟨hi,F8 h⟩
 ·cases h
theorem q9 {tt:Nat->Option Aw}{g:Operand->D}{ev:Operand->Value}{n k:Nat}{d:D}{e':Aq}{p:Prop}(htt:Cx C.P tt)(m:Ak C F ρ H w)(fr:∀k,ρ k n=none)(hlt:∀e∈H,e.g≠n)
  (hg:∀x,AV ρ (AM F.X ρ H) w (g x) (ev x)) (h:Kg tt n k g o.op=some (d,e',p)) (hp:p):
  ∃v ρ' w',(execOp ev o).run C.P w=.ok (.value v) w'/\Jc C F H ρ w n d (some e') v ρ' w':=by
 unfold Kg at h;split at h<;>try(cases h;done)
 rename_i t l c ho;split at h<;>try(cases h;done)
 rename_i i hi;split at h<;>try(cases h;done)
 rename_i e esz eby ez hk;split at h<;>try(cases h;done)
 rename_i kl a hl;split at h<;>try(cases h;done)
 rename_i kc b hc;cases h;obtain⟨h0,hab,hby,hmx⟩:=hp;obtain⟨k1,⟨inf,k2,rfl,rfl,k5⟩,k6,k7⟩:=FC (htt _ _ hi) hk;have h1:=hg l;have h2:=hg c;rw[hl]at h1;rw[hc]at h2;generalize hvl:ev l=vl at h1;generalize hvc:ev c=vc at h2;cases h1;cases h2;have run:=run_make (P:=C.P) w t e inf ez k1 k2 k5 kl kc a b h0 hab hby hmx;have hcell:∀q,q<b.toNat*inf.size->(madeCells ez.cells (b.toNat*inf.size)).getD q undef=ez.cells.getD (q%inf.size) undef/\q%inf.size<ez.cells.size:=λq hq=>by
  have hpos:0<inf.size:=by
   rcases ED inf.size with h|h
   ·rw[h]at hq;simp at hq
   ·exact h
  have hm:q%ez.cells.size<ez.cells.size:=B7 _ (by omega);rw[k6]at hm;refine⟨?_,by omega⟩;unfold madeCells;simp only[At,Array.getElem?_map];rw[B3 (by simpa using hq)];simp only[Array.getElem_range,Jm,IZ];rw[k6,getElem!_pos ez.cells (q%inf.size) (by omega),HB];rfl
 have hec:(ofV ez).cells.length=inf.size/\∀(j:Nat) (c:D),(ofV ez).cells[j]?=some c->c=.prim (ez.cells.getD j undef):=by
  cases ez
  case tuple vs=>
   have:=k7 0 (.tuple vs) rfl
   simp[Ide.one]at this
  case agg vs=>
   refine⟨by simp only[ofV,D.cells,Ag,IW];exact k6,λj c hc=>?_⟩;simp only[ofV,D.cells,A8,Jo,Er]at hc;obtain⟨x,hx,rfl⟩:=hc;show D.prim x=.prim (vs.getD j undef);rw[At,hx];rfl
  all_goals
   refine⟨k6,λj c hc=>?_⟩
   match j with
   | 0=>simp only[ofV,D.cells,S5,BL]at hc;subst hc;rfl
   |j+1=>simp[ofV,D.cells]at hc
 have hle:a.toNat<=b.toNat:=by omega
 have ho':DY ρ (AM F.X ρ H) w ⟨k,n,e,inf.size,List.replicate a.toNat (ofV ez)⟩ (madeCells ez.cells (b.toNat*inf.size)):=by
  refine⟨by simp only[HR,size_madeCells];exact CP _ hle,λq d hd=>?_,λq v hv=>?_,λq d j c hd hcj=>?_⟩
  ·obtain⟨_,rfl⟩:=ZI hd
   exact hec.1
  ·have hq:q<b.toNat*inf.size:=by have:=(C7.1 hv).1;rw[size_madeCells]at this;exact this
   obtain⟨c1,c2⟩:=hcell q hq;rw[At,hv,IZ,At,B3 c2,IZ]at c1;rw[c1];exact k7 _ _ (B3 c2)
  ·obtain⟨hq,rfl⟩:=ZI hd
   have hj:j<inf.size:=by rw[<-hec.1];exact(BQ.1 hcj).1
   rw[hec.2 j c hcj];dsimp only;have hlt2:q*inf.size+j<b.toNat*inf.size:=by
    have:(q+1)*inf.size<=b.toNat*inf.size:=CP _ (by omega)
    rw[Bv]at this;omega
   rw[(hcell _ hlt2).1,BY,Nat.mul_add_mod,Ff hj];exact .prim _
 obtain⟨m1,x1⟩:=m.alloc ⟨k,n,e,inf.size,List.replicate a.toNat (ofV ez)⟩ _ (fr k) (λe' he' h=>hlt e' he' h.2) ho';refine⟨.slice (some ⟨w.heap.size,0,none⟩) a.toNat b.toNat,ρ.put k n w.heap.size,_,?_,m1,x1,λk' g' hg=>by unfold Lk.put;rw[AG λh=>hg h.2],?_⟩
 ·unfold execOp
  simp only[ho,hvl,hvc];rw[run_bind,run];rfl
 ·exact P0 (b:=w.heap.size) (T:=e) (fz:=(0,0)) (Ei _ _ _ _) (by rw[Ed];exact AH rfl) hle (by rw[size_madeCells]) (by simp only[maxLen];omega)
theorem pQ {tt:Nat->Option Aw}{n k:Nat}{g:Operand->D}{op:Op}{d:D}{e:Aq}{p:Prop}(h:Kg tt n k g op=some (d,e,p)):e.g=n:=by
 unfold Kg at h
 (repeat' split at h)<;>first|(cases h;done)|(cases h;rfl)
theorem iZ {tt:Nat->Option Aw}(k:Nat)(htt:Cx C.P tt){d:D}{e':Aq}{p:Prop}(hw:CN ops s.env o=some true)(he:Kg tt s.n k (BF s.env) o.op=some (d,e',p))(hp:p)
  (h:BH C F ops os ⟨Bf s.env o.dst d,e'::s.H,s.n+1⟩ K):BH C F ops (o::os) s K:=
 BH.step hw (λρ a w hs=>by
  obtain⟨v,ρ',w',h1,h2⟩:=q9 htt hs.mem (λk=>hs.fresh k _ (Al _)) (λe he=>Nat.ne_of_lt (hs.gen e he)) (De hs.env) he hp;refine⟨v,ρ',w',.inl h1,⟨h2.mem,h2.ext,λk g hg=>by rw[h2.far k g (by omega)];exact hs.fresh k g (by omega),h2.rep⟩,λe he2=>?_⟩;rcases Az.1 he2 with rfl|he2
  ·have:=pQ he;omega
  ·exact Dc (hs.gen e he2)) h
theorem BH.l' {tt:Nat->Option Aw}(k:Nat)(htt:Cx C.P tt){d:D}{ne:Option Aq}{p:Prop}(hw:CN ops s.env o=some true)(he:Ej tt s.H s.n k (BF s.env) o.op=some (d,ne,p))(hp:p)
  (h:BH C F ops os ⟨Bf s.env o.dst d,C9 ne s.H,s.n+1⟩ K):BH C F ops (o::os) s K:=
 BH.step hw (λρ a w hs=>by
  obtain⟨v,ρ',w',h1,h2⟩:=aq (λ_ h=>h) htt hs.mem (λk=>hs.fresh k _ (Al _)) (λe he=>Nat.ne_of_lt (hs.gen e he)) (De hs.env) he hp;refine⟨v,ρ',w',.inl h1,⟨h2.mem,h2.ext,λk g hg=>by rw[h2.far k g (by omega)];exact hs.fresh k g (by omega),h2.rep⟩,λe he'=>?_⟩;cases ne with
  |none=>exact Dc (hs.gen e he')
  |some e'=>
   rcases Az.1 he' with rfl|he'
   ·have:=Zb he
    omega
   ·exact Dc (hs.gen e he')) h
theorem BH.q {tt:Nat->Option Aw}{xt:Nat->Option XI}(htt:Cx C.P tt)(hxt:Me C.P xt){d:D}{p:Prop}(hw:CN ops s.env o=some true)(he:E8 tt xt (BF s.env) o.op=some (d,p))(hp:p)
  (h:BH C F ops os ⟨Bf s.env o.dst d,s.H,s.n+1⟩ K):BH C F ops (o::os) s K:=
 BH.step hw (λρ a w hs=>by
  obtain⟨v,h1,h2⟩:=au htt hxt (De hs.env) he hp;exact⟨v,ρ,w,.inl h1,.pure hs h2,λe he=>Dc (hs.gen e he)⟩) h
theorem XB {f t:Nat}{name:String}{d0:D}{r:Operand}{args:Array Operand}{tys:Array Nat}{a:Act}(ho:o.op=.call ⟨.invoke r name,args,tys⟩)(hr:BF s.env r=.ifc t d0)
  (hm:∀v w,(method (C.P.types.size+Made.depth) t v name).run C.P w=.ok (f,v) w) (hcall:Jw C.P f) (hs:Bn C F ρ s a w):
  ∃vs,(execOp a.eval o).run C.P w=.ok (.enter f vs) w/\vs.size=(d0::args.toList.map (BF s.env)).length /\
   ∀(i:Nat) (d:D),(d0::args.toList.map (BF s.env))[i]?=some d->AV ρ (AM F.X ρ s.H) w d (vs.getD i undef):=by
 have hrr:=De hs.env r;rw[hr]at hrr;generalize hv:a.eval r=v at hrr;cases hrr with
 |ifc h0=>
  rename_i v0;refine⟨#[v0]++args.map a.eval,?_,by simp;omega,λi d hd=>?_⟩
  ·unfold execOp
   simp only[ho];rw[run_bind]
   have:(resolve a.eval ⟨.invoke r name,args,tys⟩ o.type).run C.P w=.ok { target:=.fn (.method name) #[],args:=#[.iface t v0]++args.map a.eval } w:=by
    unfold resolve;simp only[hv];rfl
   rw[this];dsimp only;unfold invoke;have g0:(#[Value.iface t v0]++args.map a.eval)[0]?=some (.iface t v0):=by rw[G6 (by simp)];rfl
   have g1:(#[Value.iface t v0]++args.map a.eval).extract 1 (#[Value.iface t v0]++args.map a.eval).size=args.map a.eval:=by
    apply Array.ext_getElem?;intro q;rw[Array.getElem?_extract];simp only[Jq,Ka,Bq,HQ,Array.size_map];rw[G5 (by simp)];simp only[Ka,Bq,HQ];split
    ·congr 1;omega
    ·rw[P3 (by simp;omega)]
   simp only[g0,g1];unfold callMethod;simp only[];rw[run_bind,QY];dsimp only;rw[run_bind,hm];dsimp only;exact TV hcall _ w
  ·cases i with
   |zero=>
    simp at hd;subst hd
    have:(#[v0]++args.map a.eval).getD 0 undef=v0:=by rw[At,G6 (by simp)];rfl
    rw[this];exact h0
   |succ i=>
    simp only[Kb,A8,Jo,Er]at hd;obtain⟨x,hx,rfl⟩:=hd
    have:(#[v0]++args.map a.eval).getD (i+1) undef=a.eval x:=by
     simp only[At];rw[G5 (by simp)];simp[hx]
    rw[this];exact De hs.env x
theorem d9Q {f t:Nat}{name:String}{d0:D}{ds:List D}{r:Operand}{args:Array Operand}{tys:Array Nat}{Φ:D->Hp->Nat->Prop}(hw:CN ops s.env o=some true)(ho:o.op=.call ⟨.invoke r name,args,tys⟩)(hr:BF s.env r=.ifc t d0)
  (hm:∀v w,(method (C.P.types.size+Made.depth) t v name).run C.P w=.ok (f,v) w) (hds:d0::args.toList.map (BF s.env)=ds) (hc:Ct C f ds s.H s.n Φ)
  (h:∀d H' n',Φ d H' n'->BH C F ops os ⟨Bf s.env o.dst d,H',n'⟩ K):BH C F ops (o::os) s K:=by
 intro hd l hl ρ a w hs;cases l with
 |nil=>simp at hl
 |cons i l=>
  simp only[Cs,Fg]at hl;simp only[GN,Ba]at hd;obtain⟨vs,h1,h2,h3⟩:=XB ho hr hm hc.1 hs;rw[hds]at h2 h3;simp only[wpOps,hl.1];rw[AH (MA hs.env hw)];refine .inl ?_;unfold Oper.wp;rw[h1];refine(hc.2 F ρ w vs hs.mem hs.fresh hs.gen h2 h3).mono ?_;rintro e w' ⟨v,d,H',n',ρ',rfl,hΦ,m,x,fr,g,r⟩;exact h d H' n' hΦ hd.2 l hl.2 ρ' (a.put o.dst v) w' (hs.put m x fr g r hd.1)
structure sE (es:Array MapEntry)(clock:Nat)(ks vs:List D):Prop where
 hB:J9 es clock
 h1:es.size=ks.length
 h2:es.size=vs.length
 hk:∀(i:Nat) (d:D),ks[i]?=some d->∀ρ O w,AV ρ O w d (es.getD i default).key
 hv:∀(i:Nat) (d:D),vs[i]?=some d->∀ρ O w,AV ρ O w d (es.getD i default).val
theorem J9.push {es:Array MapEntry}{clock:Nat}(h:J9 es clock)(k v:Value):J9 (es.push { key:=k,val:=v,born:=clock }) (clock+1):=by
 refine⟨λi e he=>?_,λi j e e' he he' hb=>?_⟩
 ·rw[P9]at he
  split at he
  ·cases he;exact Hz _
  ·exact Dc (h.1 i e he)
 ·rw[P9]at he he'
  split at he<;>split at he'
  ·omega
  ·cases he
   have:=h.1 j e' he'
   simp only at hb;omega
  ·cases he'
   have:=h.1 i e he
   simp only at hb;omega
  ·exact h.2 i j e e' he he' hb
def Wn (C:A9)(F:AY)(ops:Array Oper)(os:List Oper)(m:Nat)(ks vs:List D)(s:St)(K:St->Prop):Prop:=
 os.all (DZ F.nt)=true->∀(l:List Nat),l.map (ops[·]?)=os.map some->∀ρ a w es clock,Bn C F ρ s a w->a.tmps.getD m undef=.map (some w.heap.size)->m<a.tmps.size->sE es clock ks vs ->
  wpOps C.P ops (Kn C F K) l a (w.alloc (.map es clock))
theorem Wn.done {m:Nat}{ks vs:List D}(h:BH C F ops os ⟨Bf s.env (some m) (.mp ks vs),s.H,s.n⟩ K):Wn C F ops os m ks vs s K:=by
 intro hds l hl ρ a w es clock hs hm hlt hr;have hO:¬AM F.X ρ s.H w.heap.size:=λh'=>Af (hs.mem.own_lt h') (Nat.lt_irrefl _)
 have x:=BX.allocPure (ρ:=ρ) (F:=F) (H:=s.H) (w:=w) (.map es clock);refine h hds l hl ρ a _ ⟨hs.mem.allocPure _,hs.fresh,hs.gen,λt=>?_,hs.nt,hs.dfr⟩;show AV _ _ _ (Ap.get ((m,.mp ks vs)::s.env) t) _;rw[I7]
 by_cases ht:m=t
 ·subst ht
  rw[AH rfl,hm];exact .mp hO (by simp) (by rw[Ed,AH rfl]) hr.h1 hr.h2 hr.hB (λi d hd=>hr.hk i d hd _ _ _) (λi d hd=>hr.hv i d hd _ _ _)
 ·rw[AG ht];exact(hs.env t).mono x
def K4 (C:A9)(f:Nat)(ds:List D)(d:D):Prop:=∀(ρ:Lk) (O:Nat->Prop) (w:World) (vs:Array Value),vs.size=ds.length->(∀(i:Nat) (x:D),ds[i]?=some x->AV ρ O w x (vs.getD i undef)) ->
 ∃v,(callFunc f vs).run C.P w=.ok (.value v) w/\AV ρ O w d v
theorem XF {f:Nat}{g:Operand->D}{O:Nat->Prop}{first captured:List D}{fop:Operand}{args:Array Operand}{tys:Array Nat}{ρ:Lk}{a:Act}{w:World}(ho:o.op=.call ⟨.value fop,args,tys⟩)
  (hf:g fop=.clo (.func f) first captured) (hg:∀x,AV ρ O w (g x) (a.eval x)):
  ∃vs,(execOp a.eval o).run C.P w=(callFunc f vs).run C.P w/\vs.size=(first++args.toList.map g++captured).length /\
   ∀(i:Nat) (d:D),(first++args.toList.map g++captured)[i]?=some d->AV ρ O w d (vs.getD i undef):=by
 have hfr:=hg fop;rw[hf]at hfr;generalize hv:a.eval fop=v at hfr;cases hfr with
 |clo hn hc h1 h2=>
  rename_i fs cs;refine⟨fs++args.map a.eval++cs,?_,by simp[hn,hc],λi d hd=>?_⟩
  ·unfold execOp
   simp only[ho];rw[run_bind]
   have:(resolve a.eval ⟨.value fop,args,tys⟩ o.type).run C.P w=.ok { target:=.fn (.func f) cs,args:=fs++args.map a.eval } w:=by
    unfold resolve;simp only[hv];rfl
   rw[this];dsimp only;unfold invoke;rfl
  ·rw[EE]at hd
   rcases BA i first.length with hi|hi
   ·rw[GL hi]at hd
    have:(fs++args.map a.eval++cs).getD i undef=fs.getD i undef:=by
     simp only[At];rw[Mn,G6 (by omega)]
    rw[this];exact h1 i d hd
   ·rw[Ez hi]at hd
    rcases BA (i-first.length) args.size with hj|hj
    ·rw[GL (by simpa using hj)]at hd
     simp at hd;obtain⟨x,hx,rfl⟩:=hd
     have:(fs++args.map a.eval++cs).getD i undef=a.eval x:=by
      simp only[At];rw[Mn,G5 (by omega),G6 (by simp;omega),hn];simp[hx]
     rw[this];exact hg x
    ·rw[Ez (by simpa using hj)]at hd
     have:(fs++args.map a.eval++cs).getD i undef=cs.getD (i-first.length-args.size) undef:=by
      simp only[At];rw[Mn,G5 (by omega),G5 (by simp;omega),hn];simp
     rw[this];exact h2 _ d (by simpa using hd)
theorem BH.nat {f:Nat}{first captured ds:List D}{fop:Operand}{args:Array Operand}{tys:Array Nat}{d:D}(hw:CN ops s.env o=some true)(ho:o.op=.call ⟨.value fop,args,tys⟩)
  (hf:BF s.env fop=.clo (.func f) first captured) (hds:first++args.toList.map (BF s.env)++captured=ds) (hc:K4 C f ds d)
  (h:BH C F ops os ⟨Bf s.env o.dst d,s.H,s.n+1⟩ K):BH C F ops (o::os) s K:=
 BH.step hw (λρ a w hs=>by
  obtain⟨vs,h1,h2,h3⟩:=XF (C:=C) (a:=a) ho hf (De hs.env);rw[hds]at h2 h3;obtain⟨v,h4,h5⟩:=hc _ _ _ vs h2 h3;exact⟨v,ρ,w,.inl (h1.trans h4),.pure hs h5,λe he=>Dc (hs.gen e he)⟩) h
theorem B5.nat {H:Hp}{g f:Nat}{env:Ap}{first captured ds:List D}{fop:Operand}{args:Array Operand}{tys:Array Nat}{d:D}(hw:CN ops env o=some true)(ho:o.op=.call ⟨.value fop,args,tys⟩)
  (hf:BF env fop=.clo (.func f) first captured) (hds:first++args.toList.map (BF env)++captured=ds) (hc:K4 C f ds d):B5 C F ops H g env o d none:=by
 refine⟨by simp,λHe ρ a w m hsub fr hne hr=>.inr ⟨H9 hr hw,.inl ?_⟩⟩;obtain⟨g',h1,h2⟩:=Ih hr;have hfop:fop∈o.op.operands:=by rw[ho];simp[Op.operands,Call.operands]
 have harg:∀x∈args.toList,BF env x=g' x:=λx hx=>h1 x (by rw[ho];simp[Op.operands,Call.operands];right;simpa using hx)
 rw[h1 fop hfop]at hf;rw[My harg]at hds;obtain⟨vs,q1,q2,q3⟩:=XF (C:=C) (g:=g') ho hf h2;rw[hds]at q2 q3;obtain⟨v,h4,h5⟩:=hc _ _ _ vs q2 q3;exact⟨v,ρ,w,q1.trans h4,m,.refl _ _ _,λ_ _ _=>rfl,h5⟩
end
def gO (op:BinOp)(k k':IntKind)(b:Int):Bool:=match op with
 | .quo | .rem=>decide (k=k') && !(decide (b=0))
 | .shl | .shr=>decide (0<=b)
 |_=>decide (k=k')
def TM (op:BinOp)(x y:Value):Bool:=match x,y with
 | .int k _,.int k' b=>gO op k k' b
 | .string a,.string b=>match op with
  | .add=>Nat.ble (a.size+b.size) 9223372036854775807
  |_=>true
 |_,_=>true
theorem cr {op:BinOp}{x y v:Value}{p:Prop}(h:Nu op x y=some (v,p))(hk:TM op x y=true):p:=by
 unfold Nu at h;unfold TM at hk;split at h
 ·dsimp only at hk
  unfold gO at hk;cases op<;>simp only[BL,Bk]at h<;>obtain⟨_,rfl⟩:=h<;>simpa using hk
 ·cases op<;>simp only[BL,Bk,reduceCtorEq]at h<;>obtain⟨_,rfl⟩:=h<;>first|trivial|(dsimp only at hk;exact Dj hk)
 ·cases h
def Wi (ti:TI)(x y:D):Bool:=match ti,x,y with
 | .slice ..,.sl false _ es,.prim (.slice none _ _)=>!es.isEmpty
 |_,_,_=>true
theorem v7 {ti:TI}{x y:D}{b:Bool}{p:Prop}(h:Mr ti x y=some (b,p))(hk:Wi ti x y=true):p:=by
 unfold Mr at h;split at h<;>try(cases h;done)
 all_goals(simp only[BL,Bk]at h;obtain⟨_,rfl⟩:=h)
 all_goals first
  |trivial
  |(simp only[Wi]at hk;intro he;subst he;simp at hk)
def Vv (tt:Nat->Option Aw)(op:BinOp)(t:Nat)(x y:D):Bool:=match x,y with
 | .prim (.int k a),.prim (.int k' b)=>TM op (.int k a) (.int k' b)
 | .prim (.string a),.prim (.string b)=>TM op (.string a) (.string b)
 |x,y=>match tt t with
  |some i=>Wi i.ti x y
  |none=>true
theorem oS {tt:Nat->Option Aw}{op:BinOp}{t:Nat}{x y d:D}{p:Prop}(h:Pm tt op t x y=some (d,p))(hk:Vv tt op t x y=true):p:=by
 unfold Pm at h;unfold Vv at hk;split at h
 ·dsimp only at hk
  split at h<;>try(cases h;done)
  rename_i hb;cases h;exact cr hb hk
 ·dsimp only at hk
  split at h<;>try(cases h;done)
  rename_i hb;cases h;exact cr hb hk
 ·rename_i h1 h2
  split at hk
  ·exact Af rfl (h1 _ _ _ _ rfl)
  ·exact Af rfl (h2 _ _ rfl)
  ·split at h<;>try(cases h;done)
   rename_i i hi;split at h<;>try(cases h;done)
   rename_i b q hb;split at h<;>try(cases h;done)
   cases h;rw[hi]at hk;exact v7 hb hk
def Nl (ag:Bool)(sz:Nat)(d:D):Bool:=match ag with
 |true=>match d with
  | .agg ds=>Nat.beq ds.length sz
  |_=>false
 |false=>Nat.beq sz 1&&d.one
theorem Ol {ag:Bool}{sz:Nat}{d:D}(h:Nl ag sz d=true):EY ag sz d:=by
 unfold Nl at h;split at h
 ·split at h
  ·rw[<-CA h];exact EY.agg
  ·cases h
 ·simp only[Ba]at h
  rw[CA h.1];exact Sy h.2
def R0 (fs:List (Nat×Nat×Bool))(g:Operand->D):List (Nat×Operand)->List D->Bool
 | [],_=>true
 |(i,x)::r,cs=>match fs[i]? with
  |some (o,sz,ag)=>Nl ag sz (g x)&&Nat.ble (o+sz) cs.length&&R0 fs g r (FY cs o (FQ ag (g x)))
  |none=>true
theorem YP {fs:List (Nat×Nat×Bool)}{g:Operand->D}:∀ {ps:List (Nat×Operand)} {cs cs':List D} {p:Prop},Hm fs g ps cs=some (cs',p)->R0 fs g ps cs=true->p
 | [],cs,cs',p,h,_=>by simp only[Hm,BL,Bk]at h;obtain⟨_,rfl⟩:=h;trivial
 |(i,x)::r,cs,cs',p,h,hk=>by
  simp only[Hm]at h;simp only[R0]at hk;cases hf:fs[i]? with
  |none=>simp[hf]at h
  |some q=>
   obtain⟨o,sz,ag⟩:=q;simp only[hf]at h hk;cases hr:Hm fs g r (FY cs o (FQ ag (g x)))with
   |none=>simp[hr]at h
   |some q=>
    obtain⟨c2,p2⟩:=q;simp only[hr,BL,Bk]at h;obtain⟨_,rfl⟩:=h;simp only[Ba]at hk;exact⟨⟨Ol hk.1.1,Dj hk.1.2⟩,YP hr hk.2⟩
def Ps (n:Nat):D->Bool
 | .prim (.int _ x)=>decide (0<=x)&&decide (x<=n)
 |_=>true
theorem RS {n m:Nat}{d:D}{p:Prop}(h:LJ n d=some (m,p))(hk:Ps n d=true):p:=by
 unfold LJ at h;split at h
 ·simp only[BL,Bk]at h;obtain⟨_,rfl⟩:=h
  simpa[Ps]using hk
 ·cases h
def Pd (n:Nat)(lo hi:Option D):Bool:=match hi with
 |none=>match lo with
  |none=>true
  |some l=>Ps n l
 |some h=>Ps n h&&(match LJ n h with
  |some (m,_)=>match lo with
   |none=>true
   |some l=>Ps m l
  |none=>true)
theorem UK {n a b:Nat}{lo hi:Option D}{p:Prop}(h:Ip n lo hi=some (a,b,p))(hk:Pd n lo hi=true):p:=by
 unfold Ip at h;unfold Pd at hk;cases hi with
 |none=>
  cases lo with
  |none=>simp only[BL,Bk]at h;obtain⟨_,_,rfl⟩:=h;trivial
  |some l=>
   dsimp only at h hk;split at h<;>try(cases h;done)
   rename_i hb;cases h;exact RS hb hk
 |some hh=>
  dsimp only at h hk;simp only[Ba]at hk;split at h<;>try(cases h;done)
  rename_i m q hb;rw[hb]at hk;cases lo with
  |none=>cases h;exact RS hb hk.1
  |some l=>
   dsimp only at h hk;split at h<;>try(cases h;done)
   rename_i hb2;cases h;exact⟨RS hb hk.1,RS hb2 hk.2⟩
def Ui (tt:Nat->Option Aw)(t:Nat)(x:D)(lo hi:Option D):Bool:=match tt t with
 |some i=>match i.ti,x with
  | .string,.prim (.string s)=>Pd s.size lo hi
  | .slice _ esz _ _,.sl _ sz es=>Pd es.length lo hi&&Nat.beq esz sz
  | .slice _ esz _ _,.osl _ _ sz _ len=>Pd len lo hi&&Nat.beq esz sz&&(match Ip len lo hi with
   |some (l,h,_)=>Nat.blt l h||Nat.beq l 0
   |none=>true)
  |_,_=>true
 |none=>true
theorem kg {tt:Nat->Option Aw}{t:Nat}{x d:D}{lo hi:Option D}{p:Prop}(h:PL tt t x lo hi=some (d,p))(hk:Ui tt t x lo hi=true):p:=by
 unfold PL at h;unfold Ui at hk;cases hi':tt t with
 |none=>simp[hi']at h
 |some i=>
  simp only[hi']at h hk;split at h<;>try(cases h;done)
  ·rename_i hti
   simp only[hti]at hk;split at h<;>try(cases h;done)
   rename_i hb;cases h;exact UK hb hk
  ·rename_i hti
   simp only[hti,Ba]at hk;split at h<;>try(cases h;done)
   rename_i hb;cases h;exact⟨UK hb hk.1,CA hk.2⟩
  ·rename_i hti
   simp only[hti,Ba]at hk;split at h<;>try(cases h;done)
   rename_i l hh q hb;cases h;simp only[hb]at hk;refine⟨UK hb hk.1.1,CA hk.1.2,?_⟩
   have:=hk.2
   simp only[JC]at this;exact this.imp Nat.blt_eq.mp CA
theorem Xu {k:IntKind}:∀ {r:List D} {a:Int} {d:D} {p:Prop},K6 k a r=some (d,p)->p
 | [],a,d,p,h=>by simp only[K6,BL,Bk]at h;obtain⟨_,rfl⟩:=h;trivial
 |x::r,a,d,p,h=>by
  unfold K6 at h;split at h
  ·rename_i h1;cases h1
  ·rename_i h1;cases h1;exact Xu h
  ·cases h
theorem YK {k:IntKind}:∀ {r:List D} {a:Int} {d:D} {p:Prop},K5 k a r=some (d,p)->p
 | [],a,d,p,h=>by simp only[K5,BL,Bk]at h;obtain⟨_,rfl⟩:=h;trivial
 |x::r,a,d,p,h=>by
  unfold K5 at h;split at h
  ·rename_i h1;cases h1
  ·rename_i h1;cases h1;exact YK h
  ·cases h
theorem jw {tt:Nat->Option Aw}{b:Builtin}{tys:List Nat}{args:List D}{d:D}{p:Prop}(h:Oj tt b tys args=some (d,p)):p:=by
 unfold Oj at h
 (repeat' split at h)<;>first|(cases h;done)|(cases h;trivial)|exact Xu h|exact YK h
def Mu (tt:Nat->Option Aw)(g:Operand->D):Op->Bool
 | .pick c a b=>match g c with
  | .prim (.bool true)=>(Hs (g a)).2
  | .prim (.bool false)=>(Hs (g b)).2
  |_=>true
 | .build t ps=>match tt t with
  |some i=>match RT i.ti with
   |some fs=>R0 fs g ps.toList (i.zero.cells.toList.map .prim)
   |none=>true
  |none=>true
 | .binOp op t x y _=>Vv tt op t (g x) (g y)
 | .slice t x lo hi none=>Ui tt t (g x) (lo.map g) (hi.map g)
 | .indexAddr t x ix=>match tt t with
  |some i=>match i.ti,g ix with
   | .arr n _ _,.prim (.int _ j)=>decide (0<=j)&&decide (j<n)
   | .slice _ esz _ _,.prim (.int _ j)=>match g x with
    | .osl _ _ sz _ len=>decide (0<=j)&&decide (j<len)&&Nat.beq esz sz
    |_=>true
   |_,_=>true
  |none=>true
 | .index t x ix=>match tt t with
  |some i=>match i.ti,g x,g ix with
   | .string,.prim (.string s),.prim (.int _ j)=>decide (0<=j)&&decide (j<s.size)
   |_,_,_=>true
  |none=>true
 |_=>true
theorem eH {tt:Nat->Option Aw}{g:Operand->D}{op:Op}{d:D}{p:Prop}(h:G8 tt g op=some (d,p))(hk:Mu tt g op=true):p:=by
 unfold G8 at h;split at h<;>try(cases h;done)
 ·cases h;trivial
 ·cases h;trivial
 ·rename_i c a b
  simp only[Mu]at hk;split at h<;>try(cases h;done)
  rename_i t hc;rw[hc]at hk;cases h;cases t
  ·exact⟨λh=>(by cases h),λ_=>hk⟩
  ·exact⟨λ_=>hk,λh=>(by cases h)⟩
 ·rename_i t ps
  simp only[Mu]at hk;unfold PG at h;split at h<;>try(cases h;done)
  rename_i i hi;simp only[hi]at hk;split at h<;>try(cases h;done)
  rename_i fs hf;simp only[hf]at hk;split at h<;>try(cases h;done)
  rename_i hfl;cases h;exact YP hfl hk
 ·split at h<;>first|(cases h;done)|(cases h;trivial)
 ·exact oS h hk
 ·split at h<;>first|(cases h;done)|(cases h;trivial)
 ·split at h<;>try(cases h;done)
  split at h<;>first|(cases h;done)|(cases h;trivial)
 ·cases h;trivial
 ·exact kg h hk
 ·(repeat' split at h)<;>first|(cases h;done)|(cases h;trivial)
 ·(repeat' split at h)<;>first|(cases h;done)|(cases h;trivial)
 ·rename_i t x ix
  simp only[Mu]at hk;split at h<;>try(cases h;done)
  rename_i i hi;simp only[hi]at hk;split at h<;>try(cases h;done)
  ·rename_i h1 h2
   simp only[h1,h2]at hk;split at h<;>try(cases h;done)
   cases h;simpa using hk
  ·rename_i h1 h2
   simp only[h1,h2]at hk;split at h<;>try(cases h;done)
   rename_i h3;cases h;simp only[h3,Ba,G4]at hk;exact⟨hk.1.1,hk.1.2,CA hk.2⟩
 ·rename_i t x ix
  simp only[Mu]at hk;split at h<;>try(cases h;done)
  rename_i i hi;simp only[hi]at hk;split at h<;>try(cases h;done)
  rename_i h1 h2 h3;simp only[h1,h2,h3]at hk;cases h;simpa using hk
 ·(repeat' split at h)<;>first|(cases h;done)|(cases h;trivial)
 ·exact jw h
def Nr (ag:Bool)(sz:Nat):List D->Bool
 | []=>true
 |d::l=>Nl ag sz d&&Nr ag sz l
theorem Yu {ag:Bool}{sz:Nat}:∀ {l:List D},Nr ag sz l=true->R9 ag sz l
 | [],_=>trivial
 | [d],h=>by simp only[Nr,Ba]at h;exact Ol h.1
 |d::d'::l,h=>by simp only[Nr,Ba]at h;exact⟨Ol h.1,Yu (by simp only[Nr,Ba];exact h.2)⟩
def Kk (tt:Nat->Option Aw)(H:Hp)(g:Operand->D):Op->Bool
 | .load t x=>match tt t with
  |some i=>match g x with
   | .optr k gg sz j off=>match Hp.get H k with
    |some e=>match e.es[j]? with
     |some d=>Nat.beq gg e.g&&Nat.beq sz e.sz&&(bif i.ag then Nat.ble (off+i.sz) d.cells.length else true)
     |none=>true
    |none=>true
   | .pptr d=>match i.ag with
    |true=>match d with
     | .agg ds=>Nat.beq ds.length i.sz
     |_=>true
    |false=>KA d
   |_=>true
  |none=>true
 | .box t x=>match tt t with
  |some i=>Nl i.ag i.sz (g x)
  |none=>true
 | .buildSlice t len ps=>match tt t with
  |some i=>match i.ti with
   | .slice e esz _ _=>match len with
    | 0=>true
    |len+1=>match tt e with
     |some ie=>match JU g 0 ps.toList with
      |some es=>Nr ie.ag esz es&&Nat.beq es.length (len+1)&&Nat.ble ((len+1)*esz) 16777216&&Nat.ble 1 esz
      |none=>true
     |none=>true
   |_=>true
  |none=>true
 |_=>true
theorem Va {tt:Nat->Option Aw}{H:Hp}{n k:Nat}{g:Operand->D}{op:Op}{d:D}{ne:Option Aq}{p:Prop}(h:Ej tt H n k g op=some (d,ne,p))(hk:Kk tt H g op=true):p:=by
 unfold Ej at h;split at h<;>try(cases h;done)
 ·simp only[Kk]at hk
  split at h<;>try(cases h;done)
  rename_i i hi;simp only[hi]at hk;split at h<;>try(cases h;done)
  ·rename_i h1
   simp only[h1]at hk;split at h<;>try(cases h;done)
   rename_i e he;simp only[he]at hk;split at h<;>try(cases h;done)
   rename_i d1 hd;simp only[hd]at hk;split at h<;>try(cases h;done)
   cases h;simp only[Ba]at hk;exact⟨CA hk.1.1,CA hk.1.2,hk.2⟩
  ·rename_i h1
   simp only[h1]at hk;split at h
   ·rename_i ha
    simp only[ha]at hk;split at h<;>try(cases h;done)
    cases h;exact hk
   ·rename_i ha
    simp only[ha]at hk;cases h;exact hk
 ·split at h<;>first|(cases h;done)|(cases h;trivial)
 ·simp only[Kk]at hk
  split at h<;>try(cases h;done)
  rename_i i hi;simp only[hi]at hk;cases h;exact Ol hk
 ·simp only[Kk]at hk
  split at h<;>try(cases h;done)
  rename_i i hi;simp only[hi]at hk;split at h<;>try(cases h;done)
  rename_i h1;simp only[h1]at hk;split at h
  ·split at h<;>first|(cases h;done)|(cases h;trivial)
  ·dsimp only at hk
   split at h<;>try(cases h;done)
   rename_i h2;simp only[h2]at hk;split at h<;>try(cases h;done)
   rename_i h3;simp only[h3,Ba]at hk;cases h;exact⟨Yu hk.1.1.1,CA hk.1.1.2,hk.1.2,hk.2⟩
def TK (tt:Nat->Option Aw)(H:Hp)(g:Operand->D):Op->Bool
 | .store t x y=>match tt t with
  |some i=>match g x with
   | .optr k gg sz _ off=>match Hp.get H k with
    |some e=>Nl i.ag i.sz (g y)&&Nat.beq gg e.g&&Nat.beq sz e.sz&&Nat.ble (off+i.sz) e.sz
    |none=>true
   |_=>true
  |none=>true
 |_=>true
theorem cq {tt:Nat->Option Aw}{H:Hp}{g:Operand->D}{op:Op}{k:Nat}{e':Aq}{p:Prop}(h:Fl tt H g op=some (k,e',p))(hk:TK tt H g op=true):p:=by
 unfold Fl at h;split at h<;>try(cases h;done)
 simp only[TK]at hk;split at h<;>try(cases h;done)
 rename_i i hi;simp only[hi]at hk;split at h<;>try(cases h;done)
 rename_i h1;simp only[h1]at hk;split at h<;>try(cases h;done)
 rename_i h2;simp only[h2,Ba]at hk;split at h<;>try(cases h;done)
 cases h;exact⟨Ol hk.1.1.1,CA hk.1.1.2,CA hk.1.2,hk.2⟩
def Vw (H:Hp)(esz:Nat):D->Bool
 | .sl _ sz _=>Nat.beq sz esz
 | .osl k g sz i len=>match Hp.get H k with
  |some e=>Nat.beq g e.g&&Nat.beq sz e.sz&&Nat.beq sz esz&&Nat.ble (i+len) e.es.length
  |none=>true
 |_=>true
theorem Yv {H:Hp}{esz:Nat}{d:D}{es:List D}{p:Prop}(h:IQ H esz d=some (es,p))(hk:Vw H esz d=true):p:=by
 unfold IQ at h;split at h<;>try(cases h;done)
 ·cases h;exact CA hk
 ·simp only[Vw]at hk
  split at h<;>try(cases h;done)
  rename_i h1;simp only[h1,Ba]at hk;cases h;exact⟨CA hk.1.1.1,CA hk.1.1.2,CA hk.1.2,Dj hk.2⟩
 ·cases h;trivial
def QH (tt:Nat->Option Aw)(H:Hp)(g:Operand->D):Op->Bool
 | .call ⟨.builtin .append,args,tys⟩=>match args.toList with
  | [s,x]=>match tys.toList with
   | [t,_]=>match tt t with
    |some i=>match i.ti with
     | .slice e esz eby _=>Vw H esz (g x)&&Nat.ble 1 eby&&Nat.ble 1 esz&&(match IQ H esz (g x)with
      |some (news,_)=>match g s with
       | .osl k1 g1 sz _ len=>match Hp.get H k1 with
        |some e1=>Nat.beq g1 e1.g&&Nat.beq sz e1.sz&&Nat.beq sz esz&&Nat.beq e1.T e&&Nat.ble len e1.es.length&&Nat.ble ((len+news.length)*eby) 140737488355328
        |none=>true
       |_=>Nat.ble (news.length*eby) 140737488355328
      |none=>true)
     |_=>true
    |none=>true
   |_=>true
  |_=>true
 |_=>true
theorem VZ {tt:Nat->Option Aw}{H:Hp}{n k:Nat}{g:Operand->D}{op:Op}{d:D}{H':Hp}{p:Prop}(h:ER tt H n k g op=some (d,H',p))(hk:QH tt H g op=true):p:=by
 unfold ER at h;split at h<;>try(cases h;done)
 simp only[QH]at hk;split at h<;>try(cases h;done)
 rename_i h1;simp only[h1]at hk;split at h<;>try(cases h;done)
 rename_i h2;simp only[h2]at hk;split at h<;>try(cases h;done)
 split at h<;>try(cases h;done)
 rename_i h3;simp only[h3]at hk;split at h<;>try(cases h;done)
 rename_i h4;simp only[h4]at hk;split at h<;>try(cases h;done)
 rename_i h5;simp only[h5,Ba]at hk;obtain⟨⟨⟨k1,k2⟩,k3⟩,k4⟩:=hk;split at h<;>try(cases h;done)
 ·rename_i h6
  simp only[h6]at k4;split at h<;>try(cases h;done)
  rename_i h7;simp only[h7,Ba]at k4;cases h;exact⟨Yv h5 k1,CA k4.1.1.1.1.1,CA k4.1.1.1.1.2,CA k4.1.1.1.2,CA k4.1.1.2,Dj k4.1.2,Dj k4.2,
   Dj k2,Dj k3⟩
 ·rename_i h6
  simp only[h6]at k4;cases h;exact⟨Yv h5 k1,Dj k4,Dj k2,Dj k3⟩
def Wj (tt:Nat->Option Aw)(g:Operand->D):Op->Bool
 | .makeSlice t l c=>match tt t with
  |some i=>match i.ti with
   | .slice _ _ eby _=>match g l with
    | .prim (.int _ a)=>match g c with
     | .prim (.int _ b)=>decide (0<=a)&&decide (a<=b)&&decide ((eby:Int)*b<=281474976710656)&&decide (b<=9223372036854775807)
     |_=>true
    |_=>true
   |_=>true
  |none=>true
 |_=>true
theorem v8 {tt:Nat->Option Aw}{n k:Nat}{g:Operand->D}{op:Op}{d:D}{e:Aq}{p:Prop}(h:Kg tt n k g op=some (d,e,p))(hk:Wj tt g op=true):p:=by
 unfold Kg at h;split at h<;>try(cases h;done)
 simp only[Wj]at hk;split at h<;>try(cases h;done)
 rename_i h1;simp only[h1]at hk;split at h<;>try(cases h;done)
 rename_i h2;simp only[h2]at hk;split at h<;>try(cases h;done)
 rename_i h3;simp only[h3]at hk;split at h<;>try(cases h;done)
 rename_i h4;simp only[h4,Ba,G4]at hk;cases h;exact⟨hk.1.1.1,hk.1.1.2,hk.1.2,hk.2⟩
def TJ (xt:Nat->Option XI)(g:Operand->D):Op->Bool
 | .binOp _ t x _ _=>match xt t with
  |some (.strs n)=>match g x with
   | .agg l=>Nat.beq l.length n
   |_=>true
  |_=>true
 |_=>true
theorem ck {tt:Nat->Option Aw}{xt:Nat->Option XI}{g:Operand->D}{op:Op}{d:D}{p:Prop}(h:E8 tt xt g op=some (d,p))(hk:TJ xt g op=true):p:=by
 unfold E8 at h;split at h<;>try(cases h;done)
 ·(repeat' split at h)<;>first|(cases h;done)|(cases h;trivial)
 ·(repeat' split at h)<;>first|(cases h;done)|(cases h;trivial)
 ·simp only[TJ]at hk
  split at h<;>try(cases h;done)
  rename_i h1;simp only[h1]at hk;split at h<;>try(cases h;done)
  rename_i h2;simp only[h2]at hk;split at h<;>try(cases h;done)
  split at h<;>try(cases h;done)
  split at h<;>try(cases h;done)
  cases h;exact hk
def HV {α:Type}(n:Nat)(k:Nat->α):α:=match n with
 | 0=>k 0
 |m+1=>k (m+1)
def iu {α:Type}(z:Int)(k:Int->α):α:=match z with
 | .ofNat n=>match n with
  | 0=>k (.ofNat 0)
  |m+1=>k (.ofNat (m+1))
 | .negSucc n=>match n with
  | 0=>k (.negSucc 0)
  |m+1=>k (.negSucc (m+1))
def TF {α:Type}:List UInt8->(List UInt8->α)->α
 | [],k=>k []
 |b::l,k=>HV b.toNat λn=>TF l λl'=>k (UInt8.ofNat n::l')
def We {α:Type}(v:Value)(k:D->α):α:=match v with
 | .int kd z=>iu z λz'=>k (.prim (.int kd z'))
 | .bool b=>match b with
  |true=>k (.prim (.bool true))
  |false=>k (.prim (.bool false))
 | .string s=>TF s.data.toList λl=>k (.prim (.string ⟨l.toArray⟩))
 |v=>k (.prim v)
def Lp {α:Type}(d:D)(k:D->α):α:=match d with
 | .prim v=>We v k
 | .osl a g sz i len=>HV a λa=>HV g λg=>HV i λi=>HV len λlen=>k (.osl a g sz i len)
 | .optr a g sz i off=>HV a λa=>HV g λg=>HV i λi=>HV off λoff=>k (.optr a g sz i off)
 |d=>k d
def OI {α:Type}:List D->(List D->α)->α
 | [],k=>k []
 |d::l,k=>Lp d λd'=>OI l λl'=>k (d'::l')
def OH {α:Type}(d:D)(k:D->α):α:=match d with
 | .agg l=>OI l λl'=>k (.agg l')
 | .tup l=>OI l λl'=>k (.tup l')
 | .sl nn sz es=>OI es λes'=>k (.sl nn sz es')
 |d=>Lp d k
theorem MH {α:Type}(n:Nat)(k:Nat->α):HV n k=k n:=by cases n<;>rfl
theorem vh {α:Type}(z:Int)(k:Int->α):iu z k=k z:=by
 cases z with
 |ofNat n=>cases n<;>rfl
 |negSucc n=>cases n<;>rfl
theorem du {α:Type}:∀(l:List UInt8) (k:List UInt8->α),TF l k=k l
 | [],_=>rfl
 |b::l,k=>by simp only[TF,MH,du l];congr 2;exact UInt8.ofNat_toNat
theorem vg {α:Type}(v:Value)(k:D->α):We v k=k (.prim v):=by
 unfold We;split
 ·exact vh _ _
 ·rename_i b;cases b<;>rfl
 ·rw[du]
 ·rfl
theorem dt {α:Type}(d:D)(k:D->α):Lp d k=k d:=by
 unfold Lp;split
 ·exact vg _ _
 ·simp only[MH]
 ·simp only[MH]
 ·rfl
theorem Ru {α:Type}:∀(l:List D) (k:List D->α),OI l k=k l
 | [],_=>rfl
 |d::l,k=>by simp only[OI,dt,Ru l]
theorem Nd {α:Type}(d:D)(k:D->α):OH d k=k d:=by
 unfold OH;split
 ·exact Ru _ _
 ·exact Ru _ _
 ·exact Ru _ _
 ·exact dt _ _
def IL (f:D->Bool):List D->Bool
 | []=>true
 |d::l=>f d&&IL f l
def R3 (f:D->Bool):D->Bool
 | .agg l=>IL f l
 |d=>f d
def Hq:Nat->D->Bool
 | 0,_=>false
 |n+1,d=>match d with
  | .any=>true
  | .prim _=>true
  | .agg l=>IL (Hq n) l
  | .tup l=>IL (Hq n) l
  | .sl _ _ es=>IL (R3 (Hq n)) es
  | .pptr e=>R3 (Hq n) e
  | .clo _ a b=>IL (Hq n) a&&IL (Hq n) b
  | .mp a b=>IL (Hq n) a&&IL (Hq n) b
  | .ifc _ d=>Hq n d
  |_=>false
theorem JT {f:D->Bool}:∀ {l:List D},IL f l=true->∀d∈l,f d=true
 | [],_,_,h=>by simp at h
 |x::l,h,d,hd=>by
  simp only[IL,Ba]at h;rcases Az.1 hd with rfl|hd
  ·exact h.1
  ·exact JT h.2 d hd
theorem YG {f:D->Bool}{d:D}(h:R3 f d=true):∀c∈d.cells,f c=true:=by
 unfold R3 at h;split at h
 ·exact JT h
 ·rename_i hne
  intro c hc;cases d<;>simp only[D.cells,Eb]at hc<;>first|(subst hc;exact h)|exact Af rfl (hne _)
theorem Hk:∀ {n:Nat} {d:D},Hq n d=true->CC d
 | 0,_,h=>by cases h
 |n+1,d,h=>by
  simp only[Hq]at h;split at h
  ·exact .any
  ·exact .prim _
  ·exact .agg λd hd=>Hk (JT h d hd)
  ·exact .tup λd hd=>Hk (JT h d hd)
  ·exact .sl λe he c hc=>Hk (YG (JT h e he) c hc)
  ·exact .pptr λc hc=>Hk (YG h c hc)
  ·simp only[Ba]at h
   exact .clo (λd hd=>Hk (JT h.1 d hd)) (λd hd=>Hk (JT h.2 d hd))
  ·simp only[Ba]at h
   exact .mp (λd hd=>Hk (JT h.1 d hd)) (λd hd=>Hk (JT h.2 d hd))
  ·exact .ifc (Hk h)
  ·cases h
def KU {α β:Type}(f:α->Option β):List α->Option (List β)
 | []=>some []
 |x::l=>match f x with
  |some y=>match KU f l with
   |some r=>some (y::r)
   |none=>none
  |none=>none
theorem NE {α β:Type}{f:α->Option β}:∀ {l:List α} {r:List β},KU f l=some r->l.length=r.length/\∀(i:Nat) (x:α) (y:β),l[i]?=some x->r[i]?=some y->f x=some y
 | [],r,h=>by simp only[KU,BL]at h;subst h;simp
 |x::l,r,h=>by
  simp only[KU]at h;split at h<;>try(cases h;done)
  rename_i y hy;split at h<;>try(cases h;done)
  rename_i r' hr;cases h;obtain⟨h1,h2⟩:=NE hr;refine⟨by simp[h1],λi a b ha hb=>?_⟩;cases i with
  |zero=>simp at ha hb;subst ha hb;exact hy
  |succ i=>exact h2 i a b (by simpa using ha) (by simpa using hb)
theorem RE {α β:Type}{f:α->Option β}{l:List α}{r:List β}(h:KU f l=some r):∀y∈r,∃x∈l,f x=some y:=λy hy=>by
 obtain⟨h1,h2⟩:=NE h;obtain⟨i,hi,rfl⟩:=Mm hy;exact⟨l[i]'(by omega),List.getElem_mem _,h2 i _ _ (Cf) (Bo hi)⟩
def VQ (f:D->Option D)(d:D):Option D:=match d with
 | .agg cs=>match KU f cs with
  |some cs'=>some (.agg cs')
  |none=>none
 |d=>match f d with
  |some d'=>match KA d' with
   |true=>some d'
   |false=>none
  |none=>none
def OJ:Nat->Hp->D->Option D
 | 0,_,_=>none
 |n+1,H,d=>match d with
  | .agg l=>match KU (OJ n H) l with
   |some l'=>some (.agg l')
   |none=>none
  | .tup l=>match KU (OJ n H) l with
   |some l'=>some (.tup l')
   |none=>none
  | .osl k g sz i len=>match Hp.get H k with
   |some e=>match Nat.beq g e.g&&Nat.beq sz e.sz&&Nat.ble (i+len) e.es.length with
    |true=>match KU (VQ (OJ n H)) ((e.es.drop i).take len)with
     |some es'=>some (.sl false sz es')
     |none=>none
    |false=>none
   |none=>none
  |d=>match Hq 20 d with
   |true=>some d
   |false=>none
theorem Wv {d:D}(h:KA d=true):d.cells=[d]:=by cases d<;>first|rfl|cases h
theorem Tv {H:Hp}{f:D->Option D}(hf:∀d d',f d=some d'->Fz H [] d d'/\CC d'){d d':D}(h:VQ f d=some d'):
  d'.cells.length=d.cells.length/\(∀(q:Nat) (c c':D),d.cells[q]?=some c->d'.cells[q]?=some c'->Fz H [] c c')/\∀c∈d'.cells,CC c:=by
 unfold VQ at h;split at h
 ·rename_i cs
  split at h<;>try(cases h;done)
  rename_i cs' hm;cases h;obtain⟨h1,h2⟩:=NE hm;refine⟨h1.symm,λq c c' hc hc'=>(hf _ _ (h2 q c c' hc hc')).1,λc hc=>?_⟩;obtain⟨x,_,hx⟩:=RE hm c hc;exact(hf _ _ hx).2
 ·rename_i hne
  split at h<;>try(cases h;done)
  rename_i d1 hd;split at h<;>try(cases h;done)
  rename_i hn;cases h;have hc:d.cells=[d]:=Wv (by cases d<;>first|rfl|exact Af rfl (hne _));rw[hc,Wv hn];refine⟨rfl,λq c c' h1 h2=>?_,λc hc=>?_⟩
  ·cases q with
   |zero=>simp at h1 h2;subst h1 h2;exact(hf _ _ hd).1
   |succ q=>simp at h1
  ·simp at hc;subst hc;exact(hf _ _ hd).2
theorem LC {H:Hp}:∀ {n:Nat} {d d':D},OJ n H d=some d'->Fz H [] d d'/\CC d'
 | 0,_,_,h=>by cases h
 |n+1,d,d',h=>by
  simp only[OJ]at h;split at h
  ·split at h<;>try(cases h;done)
   rename_i hm;cases h;obtain⟨h1,h2⟩:=NE hm;refine⟨.agg h1 λi a b ha hb=>(LC (h2 i a b ha hb)).1,.agg λc hc=>?_⟩;obtain⟨x,_,hx⟩:=RE hm c hc;exact(LC hx).2
  ·split at h<;>try(cases h;done)
   rename_i hm;cases h;obtain⟨h1,h2⟩:=NE hm;refine⟨.tup h1 λi a b ha hb=>(LC (h2 i a b ha hb)).1,.tup λc hc=>?_⟩;obtain⟨x,_,hx⟩:=RE hm c hc;exact(LC hx).2
  ·split at h<;>try(cases h;done)
   rename_i k g sz i len _ e he;split at h<;>try(cases h;done)
   rename_i hb;split at h<;>try(cases h;done)
   rename_i es' hm;cases h;simp only[Ba]at hb;obtain⟨⟨b1,b2⟩,b3⟩:=hb;have b3:=Dj b3;obtain⟨h1,h2⟩:=NE hm;have hget:∀(j:Nat) (x:D),j<len->e.es[i+j]?=some x->((e.es.drop i).take len)[j]?=some x:=λj x hj hx=>by
    rw[FP,AH hj,G3];exact hx
   have hlen:es'.length=len:=by rw[<-h1];simp;omega
   refine⟨.osl he rfl (CA b1) (CA b2) b3 hlen (λj x y hx hy=>?_) (λj x y q c c' hx hy hc hc'=>?_),.sl λe' he' c hc=>?_⟩
   ·have hj:j<len:=by rw[<-hlen];exact(BQ.1 hy).1
    exact(Tv (λ_ _ h=>LC h) (h2 j x y (hget j x hj hx) hy)).1
   ·have hj:j<len:=by rw[<-hlen];exact(BQ.1 hy).1
    exact(Tv (λ_ _ h=>LC h) (h2 j x y (hget j x hj hx) hy)).2.1 q c c' hc hc'
   ·obtain⟨x,_,hx⟩:=RE hm e' he'
    exact(Tv (λ_ _ h=>LC h) hx).2.2 c hc
  ·split at h<;>try(cases h;done)
   rename_i hp;cases h;exact⟨.refl _,Hk hp⟩
structure WR where
 iw:Nat
 ia:Option Nat
 e:Aq
 e':Aq
 R:Hp
def WR.tail (W:WR)(L:Array Bool):Hp:=if L.getD W.iw false=true then W.e'::W.R else match W.ia with
 |none=>W.e::W.R
 |some ia=>if L.getD ia false=true then W.e::W.R else W.R
def WR.start (W:WR):Hp:=match W.ia with
 |none=>W.e::W.R
 |some _=>W.R
theorem ic {W:WR}{L:Array Bool}(h:Ls L W.iw):W.tail L=W.e'::W.R:=AH h
section
variable {C:A9} {F:AY} {ops:Array Oper}
def Ij (C:A9)(F:AY)(ops:Array Oper)(W:WR)(g:Nat)(env:Ap)(o:Oper)(d:D):Prop:=
 ∀(He:Hp) (ρ:Lk) (a:Act) (w:World),Ak C F ρ (W.e::He) w->(∀x∈W.R,x∈He)->(∀k,ρ k g=none)->(∀x∈W.e::He,x.g≠g) ->
  (∀t∈o.looksAt ops,AV ρ (AM F.X ρ (W.e::He)) w (env.get t) (a.tmps.getD t undef)) ->
  Region.wanted o (yielded ops a.tmps)=true/\∃v ρ' w',((execOp a.eval o).run C.P w=.ok (.value v) w'\/((execOp a.eval o).run C.P w=.ok .skip w'/\v=undef)) /\
   Ak C F ρ' (W.e'::He) w'/\BX ρ (AM F.X ρ (W.e::He)) w ρ' (AM F.X ρ' (W.e'::He)) w'/\(∀k g',g'≠g->ρ' k g'=ρ k g')/\AV ρ' (AM F.X ρ' (W.e'::He)) w' d v
theorem rA {l:List B8}(hn:(l.map (·.i)).Nodup){a b:B8}(ha:a∈l)(hb:b∈l)(he:a.i=b.i):a=b:=by
 induction l with
 |nil=>simp at ha
 |cons x l ih=>
  rw[Cs,List.nodup_cons]at hn;rcases Az.1 ha with h1|h1
  ·rcases Az.1 hb with h2|h2
   ·rw[h1,h2]
   ·exact Af (By.2 ⟨b,h2,by rw[<-he,h1]⟩) hn.1
  ·rcases Az.1 hb with h2|h2
   ·exact Af (By.2 ⟨a,h1,by rw[he,h2]⟩) hn.1
   ·exact ih hn.2 h1 h2
def Nt (C:A9)(F:AY)(ops:Array Oper)(W:WR)(g:Nat)(env:Ap)(r:B8):Prop:=
 (r.i≠W.iw/\W.ia≠some r.i/\((W.ia=none/\Dx ops W.iw r.i/\B5 C F ops (W.e::W.R) g env r.o r.d r.ne)\/B5 C F ops W.R g env r.o r.d r.ne))\/(r.i=W.iw/\W.ia≠some r.i/\r.ne=none/\Ij C F ops W g env r.o r.d) \/
  (r.i≠W.iw/\W.ia=some r.i/\r.ne=none/\B5 C F ops W.R g env r.o r.d (some W.e))
theorem Nt.gen {W:WR}{g:Nat}{env:Ap}{r:B8}(h:Nt C F ops W g env r):∀e,r.ne=some e->e.g=g:=by
 rcases h with⟨_,_,⟨_,_,h⟩|h⟩|⟨_,_,h,_⟩|⟨_,_,h,_⟩
 ·exact h.1
 ·exact h.1
 ·intro e he;rw[h]at he;cases he
 ·intro e he;rw[h]at he;cases he
theorem DI.nextG {H H':Hp}{n:Nat}{env:Ap}{A B:List B8}{r:B8}{L:Array Bool}{a:Act}{w:World}{ρ:Lk}{He:Hp}(h:DI C F H n env (A++r::B) L a w ρ He)(hi:r.i<L.size)(hn:¬Ls L r.i)
  (hnd:((A++r::B).map (·.i)).Nodup) (hdst:(A++r::B).Pairwise (λr r'=>∀t,r.o.dst=some t->r'.o.dst≠some t)) (hok:DZ F.nt r.o=true) {v:Value} {ρ':Lk} {w':World} {He':Hp}
  (pm:Ak C F ρ' He' w') (px:BX ρ (AM F.X ρ He) w ρ' (AM F.X ρ' He') w') (pf:∀k g',g'≠n+r.i->ρ' k g'=ρ k g') (pr:AV ρ' (AM F.X ρ' He') w' r.d v)
  (pp:He'.Perm ((A++r::B).filterMap (λr'=>if(L.setIfInBounds r.i true).getD r'.i false then r'.ne else none)++H')):
  DI C F H' n env (A++r::B) (L.setIfInBounds r.i true) (a.put r.o.dst v) w' ρ' He':=by
 have hset:∀j,Ls (L.setIfInBounds r.i true) j↔j=r.i\/Ls L j:=λj=>Ls.set hi
 have hne:∀r'∈A++B,r'.i≠r.i:=by
  simp only[DK,Cs]at hnd;intro r' hr' he;rw[EF,List.nodup_cons]at hnd;rcases B0.1 hr' with hr'|hr'
  ·exact hnd.2.2 r'.i (By.2 ⟨r',hr',rfl⟩) r.i (by simp) he
  ·exact hnd.2.1.1 (By.2 ⟨r',hr',he⟩)
 have hput:∀t,(a.put r.o.dst v).tmps.getD t undef=if r.o.dst=some t then v else a.tmps.getD t undef:=by
  intro t;cases hd:r.o.dst with
  |none=>simp[Act.put]
  |some k=>
   have hk:k<a.tmps.size:=by
    rw[h.nt];unfold DZ at hok;rw[hd]at hok;exact Nat.blt_eq.mp hok
   show(a.tmps.setIfInBounds k v).getD t undef=_;rw[At,IX]
   by_cases hkt:k=t
   ·subst hkt;simp[hk]
   ·rw[AG hkt,AG (by simpa using hkt),<-At]
 refine⟨pm,pp,λr' hr' hl t ht=>?_,λt ht=>?_,λk g hg hk=>?_,?_,?_⟩
 ·rw[hput]
  by_cases hrr:r'=r
  ·subst hrr;rw[AH ht];exact pr
  ·have hr2:r'∈A++B:=by
    rcases B0.1 hr' with h|h
    ·simp[h]
    ·rcases Az.1 h with h|h
     ·exact Af h hrr
     ·simp[h]
   have hl2:=((hset r'.i).1 hl).resolve_left (hne r' hr2);rw[AG]
   ·exact(h.reps r' hr' hl2 t ht).mono px
   ·intro hrt
    rw[IV,Da]at hdst;rcases B0.1 hr2 with h|h
    ·exact hdst.2.2 r' h r (by simp) t ht hrt
    ·exact hdst.2.1.1 r' h t hrt ht
 ·rw[hput,AG (ht r (by simp) ((hset r.i).2 (.inl rfl)))]
  exact(h.old t λr' hr' hl=>ht r' hr' ((hset r'.i).2 (.inr hl))).mono px
 ·by_cases hgr:g=n+r.i
  ·exact⟨r,by simp,(hset r.i).2 (.inl rfl),hgr⟩
  ·rw[pf k g hgr]at hk
   obtain⟨r',h1,h2,h3⟩:=h.fresh k g hg hk;exact⟨r',h1,(hset r'.i).2 (.inr h2),h3⟩
 ·cases r.o.dst<;>simp[Act.put,h.nt]
 ·cases r.o.dst<;>simp[Act.put,h.dfr]
theorem j0 {W:WR}{Q:Exit->Act->World->Prop}{n:Nat}{env:Ap}{rs:List B8}{suf:List Nat}(ho:MP ops rs suf)(hiw:W.iw<ops.size)(hwg:W.e'.g=W.e.g\/W.e'.g=n+W.iw)(hgen:∀e∈W.R,e.g<n)(hge:W.ia=none->W.e.g<n)(hga:∀ia,W.ia=some ia->W.e.g=n+ia/\Dx ops W.iw ia)(hd:∀r∈rs,DZ F.nt r.o=true)
  (hst:∀A r B,rs=A++r::B->ops[r.i]?=some r.o/\Nt C F ops W (n+r.i) (Eo A env) r)
  (hend:∀(L:Array Bool) (a:Act) (w:World) (ρ:Lk) (He:Hp),L.size=ops.size->(∀r∈rs,Ls L r.i)->DI C F (W.e'::W.R) n env rs L a w ρ He->wpOps C.P ops Q suf a w):
  (hw:∀ {L:Array Bool},(∀r∈rs,Ls L r.i)->Ls L W.iw)->∀(fuel:Nat) (L:Array Bool) (a:Act) (w:World) (ρ:Lk) (He:Hp),L.size=ops.size->((rs.map (·.i)++suf).filter (λi=>!L.getD i false)).length<=fuel->Cl ops L->(∀i∈suf,¬Ls L i) ->
   DI C F (W.tail L) n env rs L a w ρ He->wpAny C.P .any ops Q fuel L a w:=by
 intro hw fuel
 induction fuel with
 |zero=>
  intro L a w ρ He hL hf hc hs hi;have h0:(rs.map (·.i)++suf).filter (λi=>!L.getD i false)=[]:=F6 (by omega);have hall:∀r∈rs,Ls L r.i:=λr hr=>by
   have:=List.filter_eq_nil_iff.1 h0 r.i (by simp;exact .inl ⟨r,hr,rfl⟩)
   simpa[Ls]using this
  have hsuf:suf=[]:=by
   apply List.eq_nil_iff_forall_not_mem.2;intro i hi2
   have:=List.filter_eq_nil_iff.1 h0 i (by simp[hi2])
   exact hs i hi2 (by simpa[Ls]using this)
  subst hsuf;refine Lv [] 0 L a w hL (Al _) (λi hi2=>⟨λ_=>by simp,λ_=>?_⟩) .nil (λA i B h=>by cases A<;>simp at h) (by simp) hc (hend L a w ρ He hL hall (by have h0:=hi;rw[ic (hw hall)]at h0;exact h0))
  have:=ho.all i hi2
  simp at this;obtain⟨r,hr,rfl⟩:=this;exact hall r hr
 |succ fuel ih=>
  intro L a w ρ He hL hf hc hs hi
  by_cases hall:∀r∈rs,Ls L r.i
  ·refine Lv suf (fuel+1) L a w hL ?_ (λi hi2=>?_) ?_ (λA i B hAB=>⟨λj hj=>?_,λj hj=>ho.suf A i B hAB j (by simp[hj])⟩) (λi hi2=>ho.lt i (by simp[hi2])) hc (hend L a w ρ He hL hall (by have h0:=hi;rw[ic (hw hall)]at h0;exact h0))
   ·refine BT ?_ hf
    rw[List.filter_append,Bp];rw[(List.filter_eq_self (l:=suf)).2 λi hi2=>by have:=hs i hi2;unfold Ls at this;simpa using this];omega
   ·constructor
    ·intro h1 h2;exact hs i h2 h1
    ·intro h1
     have:=ho.all i hi2
     rcases B0.1 this with h|h
     ·obtain⟨r,hr,rfl⟩:=By.1 h;exact hall r hr
     ·exact Af h h1
   ·exact(EF.1 ho.nodup).2.1
   ·have hA:=ho.first (rs.map (·.i)++A) i B (by simp[hAB]) j hj
    refine⟨ho.lt j (by rw[hAB];rcases B0.1 hA with h|h<;>simp[h]),λhB=>?_⟩;have hnd:=ho.nodup;rw[hAB,<-EE,EF]at hnd;exact hnd.2.2 j hA j hB rfl
  ·have hnot:∃r∈rs,¬Ls L r.i:=by
    apply DB;intro hn;exact hall λr hr=>DB λh=>hn ⟨r,hr,h⟩
   have hLt:∀j,j<ops.size->(L.getD j true=true↔Ls L j):=λj hj=>by
    unfold Ls;rw[At,At,HB];simp
   have hsome:Region.ready .any ops L≠[]:=by
    obtain⟨r0,hr0,hn0⟩:=hnot
    have:∀X:List B8,∀Y,rs=X++Y->(∃r∈Y,¬Ls L r.i)->(∀r∈X,Ls L r.i)->∃A r B,rs=A++r::B/\¬Ls L r.i/\∀r∈A,Ls L r.i:=by
     intro X Y
     induction Y generalizing X with
     |nil=>rintro _ ⟨r,hr,_⟩ _;simp at hr
     |cons y Y ihY=>
      intro hXY hex hX
      by_cases hy:Ls L y.i
      ·obtain⟨r,hr,hrn⟩:=hex
       rcases Az.1 hr with rfl|hr
       ·exact Af hy hrn
       ·exact ihY (X++[y]) (by simp[hXY]) ⟨r,hr,hrn⟩ (λr hr=>by
         rcases B0.1 hr with h|h
         ·exact hX r h
         ·simp at h;subst h;exact hy)
      ·exact⟨X,y,Y,hXY,hy,hX⟩
    obtain⟨A,r,B,h1,h2,h3⟩:=this [] rs rfl ⟨r0,hr0,hn0⟩ (by simp);intro hnil;have hrlt:=ho.lt r.i (by rw[h1];simp)
    have:r.i∈Region.ready .any ops L:=by
     rw[FF];refine⟨hrlt,?_,λj hj=>?_⟩
     ·cases hb:L.getD r.i true with
      |false=>rfl
      |true=>exact Af ((hLt r.i hrlt).1 hb) h2
     ·have:=ho.first (A.map (·.i)) r.i (B.map (·.i)++suf) (by rw[h1];simp) j hj
      obtain⟨r',hr',rfl⟩:=By.1 this;exact h3 r' hr'
    rw[hnil]at this;simp at this
   refine⟨λh0=>Af h0 hsome,λi hir=>?_⟩;obtain⟨hilt,hin,hid⟩:=FF.1 hir;have hnL:¬Ls L i:=λh=>by rw[(hLt i hilt).2 h]at hin;cases hin
   have hpre:i∈rs.map (·.i):=by
    rcases B0.1 (ho.all i hilt)with h|h
    ·exact h
    ·obtain⟨A,B,hAB⟩:=Ea h
     obtain⟨r0,hr0,hn0⟩:=hnot
     have:=Fp hL hc (ho.suf A i B hAB r0.i (Ke _ (By.2 ⟨r0,hr0,rfl⟩))) hid
     exact Af this hn0
   obtain⟨r,hr,rfl⟩:=By.1 hpre;obtain⟨A,B,hAB⟩:=Ea hr;obtain⟨hor,hstr⟩:=hst A r B hAB;have hset:∀j,Ls (L.setIfInBounds r.i true) j↔j=r.i\/Ls L j:=λj=>Ls.set (by omega)
   have hndr:(rs.map (·.i)).Nodup:=(EF.1 ho.nodup).1;have hgt:∀e∈W.tail L,(e∈W.R\/(e=W.e/\∀ia,W.ia=some ia->Ls L ia)\/(e=W.e'/\Ls L W.iw)):=λe he=>by
    unfold WR.tail at he
    by_cases hwl:L.getD W.iw false=true
    ·rw[AH hwl]at he
     rcases Az.1 he with rfl|he
     ·exact .inr (.inr ⟨rfl,hwl⟩)
     ·exact .inl he
    ·rw[AG hwl]at he
     cases hia:W.ia with
     |none=>
      rw[hia]at he;rcases Az.1 he with rfl|he
      ·exact .inr (.inl ⟨rfl,by simp⟩)
      ·exact .inl he
     |some ia=>
      rw[hia]at he;dsimp only at he
      by_cases hal:L.getD ia false=true
      ·rw[AH hal]at he
       rcases Az.1 he with rfl|he
       ·exact .inr (.inl ⟨rfl,λj hj=>by cases hj;exact hal⟩)
       ·exact .inl he
      ·rw[AG hal]at he
       exact .inl he
   have hfr:∀k,ρ k (n+r.i)=none:=λk=>by
    apply DB;intro hk;obtain⟨r',h1,h2,h3⟩:=hi.fresh k (n+r.i) (by omega) hk
    have:r'.i=r.i:=by omega
    rw[this]at h2;exact hnL h2
   have hne:∀e∈He,e.g≠n+r.i:=λe he hg=>by
    rcases B0.1 (hi.perm.mem_iff.1 he)with h|h
    ·obtain⟨r',h1,h2⟩:=List.mem_filterMap.1 h
     split at h2
     ·rename_i hl
      obtain⟨A',B',hAB'⟩:=Ea h1
      have:=(hst A' r' B' hAB').2.gen e h2
      have:r'.i=r.i:=by omega
      rw[this]at hl;exact hnL hl
     ·cases h2
    ·have hE:(∀ia,W.ia=some ia->Ls L ia)->W.e.g≠n+r.i:=λhal hg=>by
      cases hia:W.ia with
      |none=>have:=hge hia;omega
      |some ia=>
       have h1:=(hga ia hia).1
       have:ia=r.i:=by omega
       rw[<-this]at hnL;exact hnL (hal ia hia)
     rcases hgt e h with h|⟨rfl,hal⟩|⟨rfl,hl⟩
     ·have:=hgen e h;omega
     ·exact hE hal hg
     ·rcases hwg with h'|h'
      ·refine hE (λia hia=>?_) (by omega)
       refine Fp hL hc (hga ia hia).2 λk hk=>?_
       have hwl':Ls L W.iw:=hl;exact hc W.iw ((hLt W.iw hiw).2 hwl') hiw k hk
      ·have:W.iw=r.i:=by omega
       rw[this]at hl;exact hnL hl
   have go:∀(a':Act) (w':World) (ρ':Lk) (He':Hp),DI C F (W.tail (L.setIfInBounds r.i true)) n env rs (L.setIfInBounds r.i true) a' w' ρ' He'->wpAny C.P .any ops Q fuel (L.setIfInBounds r.i true) a' w':=by
    intro a' w' ρ' He' hn';refine ih _ _ _ ρ' He' (by simp[hL]) ?_ ?_ (λj hj=>?_) hn'
    ·have:((rs.map (·.i)++suf).filter (λi=>!(L.setIfInBounds r.i true).getD i false)).length<((rs.map (·.i)++suf).filter (λi=>!L.getD i false)).length:=by
      have sub:(rs.map (·.i)++suf).filter (λi=>!(L.setIfInBounds r.i true).getD i false)=((rs.map (·.i)++suf).filter (λi=>!L.getD i false)).filter (λi=>!Nat.beq i r.i):=by
       rw[List.filter_filter];apply List.filter_congr;intro x hx;have h1:=hset x;unfold Ls at h1
       by_cases hxr:x=r.i
       ·subst hxr
        have:(L.setIfInBounds r.i true).getD r.i false=true:=h1.2 (.inl rfl)
        simp[this]
       ·have hb:Nat.beq x r.i=false:=by
         cases hb:Nat.beq x r.i with
         |false=>rfl
         |true=>exact Af (CA hb) hxr
        rw[hb]
        by_cases hlx:L.getD x false=true
        ·rw[h1.2 (.inr hlx),hlx];rfl
        ·have:¬(L.setIfInBounds r.i true).getD x false=true:=λh=>hlx ((h1.1 h).resolve_left hxr)
         simp only[Bool.not_eq_true]at this hlx;rw[this,hlx];rfl
      rw[sub];apply List.length_filter_lt_length_iff_exists.2;exact⟨r.i,by rw[List.mem_filter];exact⟨by simp;exact .inl ⟨r,hr,rfl⟩,by unfold Ls at hnL;simpa using hnL⟩,by simp⟩
     omega
    ·intro k hk2 hks x hx
     have hk3:Ls (L.setIfInBounds r.i true) k:=by
      unfold Ls;rw[At,B3 (by simp;omega)]at hk2⊢;simpa using hk2
     show Ls _ x;rw[hset];rcases(hset k).1 hk3 with rfl|hk3
     ·exact .inr (hid x hx)
     ·exact .inr (hc k ((hLt k hks).2 hk3) hks x hx)
    ·rw[hset]
     rintro(rfl|h)
     ·have hnd:=ho.nodup
      rw[EF]at hnd;exact hnd.2.2 r.i (By.2 ⟨r,hr,rfl⟩) r.i hj rfl
     ·exact hs j hj h
   have hdst:=ho.dst;rw[hAB]at hdst hndr;have keep:∀ {α:Type} (j:Nat) (x y:α),j≠r.i->(if(L.setIfInBounds r.i true).getD j false=true then x else y)=(if L.getD j false=true then x else y):=λj x y hj=>by
    have:=hset j
    unfold Ls at this
    by_cases hl:L.getD j false=true
    ·rw[AH hl,AH (this.2 (.inr hl))]
    ·rw[AG hl,AG λh=>hl ((this.1 h).resolve_left hj)]
   have wset:r.i≠W.iw->W.ia≠some r.i->W.tail (L.setIfInBounds r.i true)=W.tail L:=λhr hr2=>by
    unfold WR.tail;rw[keep W.iw _ _ (Ne.symm hr)];cases hia:W.ia with
    |none=>rfl
    |some ia=>
     dsimp only;rw[keep ia _ _ λh=>hr2 (by rw[hia,h])]
   have next:r.i≠W.iw->W.ia≠some r.i->∀v ρ' w',Jc C F He ρ w (n+r.i) r.d r.ne v ρ' w'->wpAny C.P .any ops Q fuel (L.setIfInBounds r.i true) (a.put r.o.dst v) w':=by
    intro hriw hria v ρ' w' p;have hi':=hi;rw[hAB]at hi';have hn':=DI.next hi' (by omega) hnL hndr hdst (hd r hr) p;rw[<-hAB,<-wset hriw hria]at hn';exact go _ _ _ _ hn'
   unfold wpOp;simp only[hor];have hR:∀e∈W.R,e∈He:=λe he=>hi.perm.mem_iff.2 (by
    refine List.mem_append_right _ ?_;unfold WR.tail;cases W.ia<;>dsimp only<;>(repeat' split)<;>simp[he])
   have samefm:r.ne=none->∀ {fm:List Aq},(A++r::B).filterMap (λr'=>if L.getD r'.i false then r'.ne else none)=fm ->
     (A++r::B).filterMap (λr'=>if(L.setIfInBounds r.i true).getD r'.i false then r'.ne else none)=fm:=λhnone fm hfm=>by
    rw[<-hfm];refine Jy λr' hr'=>?_
    by_cases hrr:r'.i=r.i
    ·have:r'=r:=rA hndr hr' (by simp) hrr
     subst this;rw[hnone];simp
    ·exact keep r'.i _ _ hrr
   rcases hstr with⟨hriw,hria,hstd⟩|⟨hriw,hria,hnone,hstw⟩|⟨hriw,hria,hnone,hstd⟩
   ·have hgo:∀Hr:Hp,(∀e∈Hr,e∈He)->B5 C F ops Hr (n+r.i) (Eo A env) r.o r.d r.ne->_:=λHr hsub hs=>hs.2 He ρ a w hi.mem hsub hfr hne (hi.look ho hL hc hAB hir)
    have fin:_:=(show(Region.wanted r.o (yielded ops a.tmps)=false/\r.ne=none/\AV ρ (AM F.X ρ He) w r.d undef)\/(Region.wanted r.o (yielded ops a.tmps)=true/\iD C F He ρ w (n+r.i) r.d r.ne r.o a)from by
     rcases hstd with⟨hia,hre,hs⟩|hs
     ·refine hgo _ (λe he=>hi.perm.mem_iff.2 ?_) hs
      have hnw:¬L.getD W.iw false=true:=λhwl=>hnL (by
       refine Fp hL hc hre λk hk=>?_
       have hwl':Ls L W.iw:=hwl;exact hc W.iw ((hLt W.iw hiw).2 hwl') hiw k hk)
      unfold WR.tail;rw[AG hnw,hia];rcases Az.1 he with rfl|he
      ·simp
      ·simp[he]
     ·exact hgo _ hR hs)
    rcases fin with⟨hw0,hn0,hrep⟩|⟨hw0,hout⟩
    ·rw[AG (by rw[hw0];simp)]
     exact next hriw hria undef ρ w ⟨by rw[hn0];exact hi.mem,by rw[hn0];exact .refl _ _ _,λ_ _ _=>rfl,by rw[hn0];exact hrep⟩
    ·rw[AH hw0]
     refine .inl ?_;unfold Oper.wp;rcases hout with⟨v,ρ',w',h1,h2⟩|⟨f,vs,h1,h2⟩
     ·rw[h1];exact next hriw hria v ρ' w' h2
     ·rw[h1]
      refine h2.mono ?_;rintro e w' ⟨v,rfl,ρ',h3⟩;exact next hriw hria v ρ' w' h3
   ·
    have hnw:¬L.getD W.iw false=true:=λh=>hnL (by rw[hriw];exact h)
    generalize hfm:rs.filterMap (λr'=>if L.getD r'.i false then r'.ne else none)=fm at*;have hperm:He.Perm (W.e::(fm++W.R)):=by
     have h0:=hi.perm;have htl:W.tail L=W.e::W.R:=by
      unfold WR.tail;rw[AG hnw];cases hia:W.ia with
      |none=>rfl
      |some ia=>
       dsimp only;have hre:=(hga ia hia).2;rw[<-hriw]at hre;exact AH (Fp hL hc hre hid)
     rw[htl,hfm]at h0;exact h0.trans HT
    have m1:=hi.mem.perm hperm;have ho1:=AM.perm (X:=F.X) (ρ:=ρ) hperm;obtain⟨hw0,v,ρ',w',hrun,m2,x2,far2,rep2⟩:=hstw (fm++W.R) ρ a w m1 (λe he=>by simp[he]) hfr (λe he=>hne e (hperm.mem_iff.2 he)) (λt ht=>by
     rw[<-ho1];exact hi.look ho hL hc hAB hir t ht)
    rw[<-ho1]at x2;have hi':=hi;rw[hAB]at hi' hfm;have nx:=DI.nextG (H':=W.e'::W.R) hi' (by omega) hnL hndr hdst (hd r hr) (v:=v) m2 x2 far2 rep2 (by
     rw[samefm hnone hfm];exact HT.symm)
    have hwt:W.tail (L.setIfInBounds r.i true)=W.e'::W.R:=by
     exact AH ((hset W.iw).2 (.inl hriw.symm))
    rw[<-hAB,<-hwt]at nx;rw[AH hw0];refine .inl ?_;unfold Oper.wp;rcases hrun with hrun|⟨hrun,rfl⟩
    ·rw[hrun];exact go _ _ _ _ nx
    ·rw[hrun];exact go _ _ _ _ nx
   ·
    have htl:W.tail L=W.R:=by
     have hnw:¬L.getD W.iw false=true:=λhwl=>hnL (by
      refine Fp hL hc (hga r.i hria).2 λk hk=>?_
      have hwl':Ls L W.iw:=hwl;exact hc W.iw ((hLt W.iw hiw).2 hwl') hiw k hk)
     unfold WR.tail;rw[AG hnw,hria];exact AG hnL
    have hwt:W.tail (L.setIfInBounds r.i true)=W.e::W.R:=by
     have hnw:¬(L.setIfInBounds r.i true).getD W.iw false=true:=λhwl=>by
      rcases(hset W.iw).1 hwl with h|h
      ·exact hriw h.symm
      ·exact hnL (by
        refine Fp hL hc (hga r.i hria).2 λk hk=>?_
        exact hc W.iw ((hLt W.iw hiw).2 h) hiw k hk)
     unfold WR.tail;rw[AG hnw,hria];exact AH ((hset r.i).2 (.inl rfl))
    have nxt:∀v ρ' w',Jc C F He ρ w (n+r.i) r.d (some W.e) v ρ' w'->wpAny C.P .any ops Q fuel (L.setIfInBounds r.i true) (a.put r.o.dst v) w':=λv ρ' w' p=>by
     have hi':=hi;rw[hAB]at hi';have nx:=DI.nextG (H':=W.e::W.R) hi' (by omega) hnL hndr hdst (hd r hr) (v:=v) p.mem p.ext p.far p.rep (by
      rw[samefm hnone rfl];have h0:=hi'.perm;rw[htl]at h0;exact(List.Perm.cons W.e h0).trans HT.symm)
     rw[<-hAB,<-hwt]at nx;exact go _ _ _ _ nx
    rcases hstd.2 He ρ a w hi.mem hR hfr hne (hi.look ho hL hc hAB hir)with⟨hw0,hn0,hrep⟩|⟨hw0,hout⟩
    ·cases hn0
    ·rw[AH hw0]
     refine .inl ?_;unfold Oper.wp;rcases hout with⟨v,ρ',w',h1,h2⟩|⟨f,vs,h1,h2⟩
     ·rw[h1];exact nxt v ρ' w' h2
     ·rw[h1]
      refine h2.mono ?_;rintro e w' ⟨v,rfl,ρ',h3⟩;exact nxt v ρ' w' h3
inductive Iy (C:A9)(F:AY)(ops:Array Oper)(W:WR)(n:Nat):List Nat->Ap->Hp->Ap->Hp->Prop
 |nil (env:Ap) (N:Hp):Iy C F ops W n [] env N env N
 |cons {i:Nat} {l:List Nat} {o:Oper} {d:D} {ne:Option Aq} {env env':Ap} {N N':Hp} (ho:ops[i]?=some o) (hs:Nt C F ops W (n+i) env ⟨i,o,d,ne⟩)
   (h:Iy C F ops W n l (Bf env o.dst d) (C9 ne N) env' N'):Iy C F ops W n (i::l) env N env' N'
theorem Iy.recs {W:WR}{n:Nat}{l:List Nat}{env env':Ap}{N N':Hp}(h:Iy C F ops W n l env N env' N'):
  ∃rs:List B8,rs.map (·.i)=l/\env'=Eo rs env/\N'=Nq rs N /\
   ∀A r B,rs=A++r::B->ops[r.i]?=some r.o/\Nt C F ops W (n+r.i) (Eo A env) r:=by
 induction h with
 |nil env N=>exact⟨[],rfl,rfl,rfl,λA r B h=>by cases A<;>simp at h⟩
 | @cons i l o d ne env env' N N' ho hs _ ih=>
  obtain⟨rs,h1,h2,h3,h4⟩:=ih;refine⟨⟨i,o,d,ne⟩::rs,by simp[h1],h2,h3,λA r B hr=>?_⟩;cases A with
  |nil=>
   simp only[GK,Fg]at hr;obtain⟨rfl,rfl⟩:=hr;exact⟨ho,hs⟩
  |cons r0 A=>
   simp only[E2,Fg]at hr;obtain⟨rfl,rfl⟩:=hr;exact h4 A r B rfl
theorem iW {W:WR}{s:St}{Q:Exit->St->Prop}{pre suf:List Nat}{envF:Ap}{N:Hp}(hc:HL ops pre suf=true)
  (hH:s.H.Perm W.start) (hga:∀ia,W.ia=some ia->W.e.g=s.n+ia/\Dx ops W.iw ia/\ia∈pre) (hiw:W.iw∈pre) (hwg:W.e'.g=W.e.g\/W.e'.g=s.n+W.iw)
  (hpre:Iy C F ops W s.n pre s.env [] envF N)
  (h:BH C F ops (suf.map λj=>ops.getD j default) ⟨envF,N++W.e'::W.R,s.n+ops.size⟩ (Q .normal)) (hd:ops.toList.all (DZ F.nt)=true) (ρ:Lk) (a:Act) (w:World) (hs:Bn C F ρ s a w):
  wpAny C.P .any ops (Kn C F (Q .normal)) ops.size (Array.replicate ops.size false) a w.drew:=by
 obtain⟨rs,h1,h2,h3,h4⟩:=hpre.recs;have hor:∀r∈rs,ops[r.i]?=some r.o:=λr hr=>by
  obtain⟨A,B,hAB⟩:=Ea hr;exact(h4 A r B hAB).1
 have ho:=RG h1 hor hc;have hds:∀r∈rs,DZ F.nt r.o=true:=λr hr=>by
  refine CY.1 hd r.o ?_
  have:=hor r hr
  exact Hw.2 (IU this)
 have hrep:∀j,(Array.replicate ops.size false).getD j false=false:=λj=>by
  rw[At];rw[Lf];split<;>rfl
 have hnL:∀j,¬Ls (Array.replicate ops.size false) j:=λj hj=>by unfold Ls at hj;rw[hrep]at hj;cases hj
 have hgen:∀e∈W.R,e.g<s.n:=λe he=>hs.gen e (hH.mem_iff.2 (by unfold WR.start;cases W.ia<;>simp[he]))
 have hge:W.ia=none->W.e.g<s.n:=λhia=>hs.gen _ (hH.mem_iff.2 (by unfold WR.start;rw[hia];simp))
 have hlw:=ho.lt W.iw (by rw[h1];simp[hiw]);have htl:W.tail (Array.replicate ops.size false)=W.start:=by
  unfold WR.tail WR.start;rw[AG (by rw[hrep];simp)];cases W.ia with
  |none=>rfl
  |some ia=>exact AG (by rw[hrep];simp)
 have hin:DI C F (W.tail (Array.replicate ops.size false)) s.n s.env rs (Array.replicate ops.size false) a w.drew ρ s.H:=by
  refine⟨hs.mem.drew,?_,λr _ hl=>Af hl (hnL _),λt _=>(hs.env t).mono (.drew _ _ _),λk g hg hk=>Af (hs.fresh k g hg) hk,hs.nt,hs.dfr⟩
  have:rs.filterMap (λr=>if(Array.replicate ops.size false).getD r.i false then r.ne else none)=[]:=by
   rw[S2];intro r _;rw[hrep];rfl
  rw[this,htl];exact hH
 refine j0 ho hlw hwg hgen hge (λia h=>⟨(hga ia h).1,(hga ia h).2.1⟩) hds h4 ?_ (λhall=>by
  rw[<-h1]at hiw;obtain⟨r,hr,he⟩:=By.1 hiw;rw[<-he];exact hall r hr) ops.size _ a w.drew ρ s.H (by simp) ?_ ?_ (λj _=>hnL j) hin
 ·intro L a' w' ρ' He hL hall hi
  have hN:He.Perm (N++W.e'::W.R):=by
   refine hi.perm.trans (List.Perm.append_right _ ?_);have e:rs.filterMap (λr=>if L.getD r.i false then r.ne else none)=rs.filterMap (·.ne):=Jy λr hr=>by
    have:=hall r hr;unfold Ls at this;rw[this];rfl
   rw[e,h3]
   have:=Ly rs []
   rw[Dm]at this;exact this.symm
  refine h ?_ suf ?_ ρ' a' w' ⟨hi.mem.perm hN,?_,?_,λt=>?_,hi.nt,hi.dfr⟩
  ·rw[CY]
   intro o' ho';obtain⟨j,hj,rfl⟩:=By.1 ho';have hlt:=ho.lt j (by simp[hj]);refine CY.1 hd _ ?_;rw[At,B3 hlt];simp
  ·rw[List.map_map]
   refine QB λj hj=>?_
   have hlt:=ho.lt j (by simp[hj]);simp[At,B3 hlt]
  ·intro k g hg
   apply DB;intro hk;obtain⟨r,hr,_,he⟩:=hi.fresh k g (by simp at hg;omega) hk
   have:=ho.lt r.i (by simp;exact .inl ⟨r,hr,rfl⟩)
   simp at hg;omega
  ·intro e he
   rcases B0.1 he with he|he
   ·rw[h3]at he
    have he:=(Ly rs []).mem_iff.1 he;rw[Dm]at he;obtain⟨r,hr,hre⟩:=List.mem_filterMap.1 he;obtain⟨A,B,hAB⟩:=Ea hr
    have:=(h4 A r B hAB).2.gen e hre
    have:=ho.lt r.i (by simp;exact .inl ⟨r,hr,rfl⟩)
    show e.g<s.n+ops.size;omega
   ·show e.g<s.n+ops.size
    rcases Az.1 he with rfl|he
    ·have hE:W.e.g<s.n+ops.size:=by
      cases hia:W.ia with
      |none=>have:=hge hia;omega
      |some ia=>
       obtain⟨q1,_,q3⟩:=hga ia hia
       have:=ho.lt ia (by rw[h1];simp[q3])
       omega
     rcases hwg with h|h<;>omega
    ·have:=hgen e he
     omega
  ·show AV ρ' (AM F.X ρ' (N++W.e'::W.R)) w' (envF.get t) _
   rw[<-AM.perm hN,h2]
   by_cases hw:∃r∈rs,r.o.dst=some t
   ·obtain⟨r,hr,hrd⟩:=hw
    rw[L5 rs s.env t ho.dst r hr hrd];exact hi.reps r hr (hall r hr) t hrd
   ·rw[JN rs s.env t λr hr hrd=>hw ⟨r,hr,hrd⟩]
    exact hi.old t λr hr _ hrd=>hw ⟨r,hr,hrd⟩
 ·refine BT (List.length_filter_le _ _) ?_
  have hsub:∀(l:List Nat) (n:Nat),l.Nodup->(∀x∈l,x<n)->l.length<=n:=by
   intro l n
   induction n generalizing l with
   |zero=>intro _ h;cases l with
    |nil=>simp
    |cons x l=>exact Af (h x (by simp)) (by omega)
   |succ n ihn=>
    intro hnd hlt;have h1:=ihn (l.erase n) (hnd.erase n) λx hx=>by
     have:=hlt x (List.mem_of_mem_erase hx)
     have:x≠n:=λh=>by subst h;exact(S4 hnd) hx
     omega
    have:=List.length_erase (a:=n) (l:=l)
    split at this<;>omega
  exact hsub _ _ ho.nodup ho.lt
 ·intro k hk
  have:k<ops.size\/¬k<ops.size:=by omega
  rcases this with hlt|hlt
  ·rw[At,Lf,AH hlt]at hk;cases hk
  ·intro h;exact Af h hlt
theorem nI {P:Program}{o:Oper}{a:Act}{R R':Exit->Act->World->Prop}{K K':Act->World->Prop}(hk:∀a w,K a w->K' a w)(h:∀e a w,R e a w->R' e a w):∀r,o.upon P a K R r->o.upon P a K' R' r:=λr hr=>by
 unfold Oper.upon at hr⊢;split at hr
 ·exact hk _ _ hr
 ·exact hk _ _ hr
 ·exact hk _ _ hr
 ·refine hr.mono ?_
  intro e w'' q;cases e with
  |returned v=>exact hk _ _ q
  |panicked c=>exact h _ _ _ q
  |outgrown=>obtain⟨a,w,q⟩:=q;exact⟨a,w,h _ _ _ q⟩
 ·exact λc cs=>by
   obtain⟨v,w',h1,h2⟩:=hr c cs;exact⟨v,w',hk _ _ h1,h2⟩
 ·exact h _ _ _ hr
 ·exact hr.elim
theorem Qj {P:Program}{R R':Exit->Act->World->Prop}(h:∀e a w,R e a w->R' e a w):∀(fuel:Nat) (L:Array Bool) (a:Act) (w:World),wpAny P .any ops R fuel L a w->wpAny P .any ops R' fuel L a w
 | 0,L,a,w,hh=>⟨hh.1,h _ _ _ hh.2⟩
 |fuel+1,L,a,w,hh=>⟨λh0=>h _ _ _ (hh.1 h0),λi hi=>by
   have hq:=hh.2 i hi;unfold wpOp at hq⊢;split
   ·rename_i ho;simp only[ho]at hq;exact Qj h _ _ _ _ hq
   ·rename_i o ho
    simp only[ho]at hq;split
    ·rename_i hw
     rw[AH hw]at hq;rcases hq with hq|⟨h1,a,w,h2⟩
     ·exact .inl (nI (λa w=>Qj h _ _ a w) h _ hq)
     ·exact .inr ⟨h1,a,w,h _ _ _ h2⟩
    ·rename_i hw
     rw[AG hw]at hq;exact Qj h _ _ _ _ hq⟩
theorem d9I {W:WR}{i:Nat}{s:St}{Q:Exit->St->Prop}{pre suf:List Nat}{envF:Ap}{N:Hp}(hm:C.P.follows .mixedOrders=true)(hc:HL ops pre suf=true)
  (hH:s.H.Perm W.start) (hga:∀ia,W.ia=some ia->W.e.g=s.n+ia/\Dx ops W.iw ia/\ia∈pre) (hiw:W.iw∈pre) (hwg:W.e'.g=W.e.g\/W.e'.g=s.n+W.iw)
  (hpre:Iy C F ops W s.n pre s.env [] envF N)
  (h:BH C F ops (suf.map λj=>ops.getD j default) ⟨envF,N++W.e'::W.R,s.n+ops.size⟩ (Q .normal)):Ok C F (.region i ops true) s Q:=λhd ρ a w hs=>by
 refine wp_region_any hm (Qj (λe a w h=>?_) _ _ _ _ (iW hc hH hga hiw hwg hpre h hd ρ a w hs));obtain⟨rfl,s',ρ',h1,h2⟩:=h;exact⟨s',ρ',h1,h2⟩
theorem lH {tt:Nat->Option Aw}{H:Hp}{g g':Operand->D}{op:Op}(h:∀x∈op.operands,g x=g' x):Fl tt H g op=Fl tt H g' op:=by
 cases op<;>simp only[Op.operands]at h<;>try rfl
 case store t x y=>simp only[Fl];rw[h x (by simp),h y (by simp)]
theorem nK {tt:Nat->Option Aw}{e:Aq}{He:Hp}{g:Operand->D}{op:Op}{k:Nat}{e':Aq}{p:Prop}(h:Fl tt [e] g op=some (k,e',p)):
  Fl tt (e::He) g op=some (k,e',p)/\Hp.set (e::He) k e'=e'::He/\e'.g=e.g:=by
 unfold Fl at h;split at h<;>try(cases h;done)
 rename_i t x y;simp only[Fl];split at h<;>try(cases h;done)
 rename_i i hi
 try simp only[hi]
 split at h<;>try(cases h;done)
 rename_i h1
 try simp only[h1]
 split at h<;>try(cases h;done)
 rename_i e1 h2;have hb:Nat.beq e.k k=true/\e1=e:=by
  split at h<;>try(cases h;done)
  cases h;simp only[Hp.get]at h2;split at h2
  ·rename_i hb;cases h2;exact⟨hb,rfl⟩
  ·cases h2
 have hget:∀k0,Hp.get [e] k0=some e1->Hp.get (e::He) k0=some e1:=λk0 hk=>by
  simp only[Hp.get]at hk⊢;split at hk
  ·exact hk
  ·cases hk
 try rw[hget _ h2]
 split at h<;>try(cases h;done)
 rename_i h3;cases h;refine⟨by first|rfl|simp only[h3],?_,by rw[hb.2]⟩;simp only[Hp.set,hb.1]
theorem Ij.store {W:WR}{g:Nat}{env:Ap}{o:Oper}{tt:Nat->Option Aw}(htt:Cx C.P tt){k:Nat}{p:Prop}(hw:CN ops env o=some true)(he:Fl tt [W.e] (BF env) o.op=some (k,W.e',p))(hp:p):
  Ij C F ops W g env o (.prim (.tuple #[])):=λHe ρ a w m _ _ _ hr=>by
 refine⟨H9 hr hw,?_⟩;obtain⟨g',h1,h2⟩:=Ih hr;rw[lH h1]at he;obtain⟨q1,q2,_⟩:=nK (He:=He) he;obtain⟨w',r1,r2,r3,_⟩:=Yb (s:=⟨[],W.e::He,0⟩) htt m h2 q1 hp;simp only[q2]at r2 r3;exact⟨undef,ρ,w',.inr ⟨r1,rfl⟩,r2,r3,λ_ _ _=>rfl,.prim _⟩
theorem Tt {tt:Nat->Option Aw}{H:Hp}{n k:Nat}{g g':Operand->D}{op:Op}(h:∀x∈op.operands,g x=g' x):ER tt H n k g op=ER tt H n k g' op:=by
 unfold ER;split
 ·rename_i args tys
  cases hargs:args.toList with
  |nil=>rfl
  |cons s r=>
   cases r with
   |nil=>rfl
   |cons x r=>
    cases r with
    |nil=>
     have hs:s∈args.toList:=by rw[hargs];simp
     have hx:x∈args.toList:=by rw[hargs];simp
     dsimp only;rw[h s (by simp[Op.operands,Call.operands];simpa using hs),h x (by simp[Op.operands,Call.operands];simpa using hx)]
    |cons=>rfl
 ·rfl
theorem Z0 {e e1:Aq}{k:Nat}{He:Hp}(h:Hp.get [e] k=some e1):e1=e/\Hp.get (e::He) k=some e/\Hp.del (e::He) k=He/\Hp.del [e] k=[]:=by
 simp only[Hp.get]at h;split at h
 ·rename_i hb
  cases h;refine⟨rfl,?_,?_,?_⟩
  ·simp only[Hp.get,hb]
  ·simp only[Hp.del,hb]
  ·simp only[Hp.del,hb]
 ·cases h
theorem nC {e:Aq}{He:Hp}{esz:Nat}{d:D}{r:List D×Prop}(h:IQ [e] esz d=some r):IQ (e::He) esz d=some r:=by
 unfold IQ at h⊢;split at h<;>try exact h
 split at h<;>try(cases h;done)
 rename_i h1;obtain⟨rfl,h2,_,_⟩:=Z0 (He:=He) h1;rw[h2];exact h
theorem US {tt:Nat->Option Aw}{e e':Aq}{He:Hp}{n k:Nat}{g:Operand->D}{op:Op}{d:D}{p:Prop}(h:ER tt [e] n k g op=some (d,[e'],p)):
  ER tt (e::He) n k g op=some (d,e'::He,p)/\e'.g=n:=by
 unfold ER at h⊢;split at h<;>try(cases h;done)
 split at h<;>try(cases h;done)
 rename_i h1
 try rw[h1]
 try dsimp only
 split at h<;>try(cases h;done)
 rename_i h2
 try rw[h2]
 try dsimp only
 split at h<;>try(cases h;done)
 rename_i h3
 try rw[h3]
 try dsimp only
 split at h<;>try(cases h;done)
 rename_i h4
 try rw[h4]
 try dsimp only
 split at h<;>try(cases h;done)
 rename_i h5
 try rw[h5]
 try dsimp only
 split at h<;>try(cases h;done)
 rename_i h6
 try rw[nC h6]
 try dsimp only
 split at h<;>try(cases h;done)
 ·rename_i h7
  try rw[h7]
  try dsimp only
  split at h<;>try(cases h;done)
  rename_i h8;obtain⟨rfl,a1,a2,a3⟩:=Z0 (He:=He) h8
  try rw[a1]
  try dsimp only
  rw[a3]at h;rw[a2];cases h;exact⟨rfl,rfl⟩
theorem Ij.app {W:WR}{g:Nat}{env:Ap}{o:Oper}{tt:Nat->Option Aw}(k:Nat)(htt:Cx C.P tt){d:D}{p:Prop}(hw:CN ops env o=some true)(he:ER tt [W.e] g k (BF env) o.op=some (d,[W.e'],p))(hp:p):
  Ij C F ops W g env o d:=λHe ρ a w m _ fr hne hr=>by
 refine⟨H9 hr hw,?_⟩;obtain⟨g',h1,h2⟩:=Ih hr;rw[Tt h1]at he;obtain⟨q1,_⟩:=US (He:=He) he;obtain⟨v,ρ',w',r1,r2⟩:=Qu htt m fr hne h2 q1 hp;exact⟨v,ρ',w',.inl r1,r2.mem,r2.ext,r2.far,r2.rep⟩
theorem Y6 {tt:Nat->Option Aw}{e':Aq}{He:Hp}{n k:Nat}{g:Operand->D}{op:Op}{d:D}{p:Prop}(h:ER tt [] n k g op=some (d,[e'],p)):
  ER tt He n k g op=some (d,e'::He,p)/\e'.g=n:=by
 have src:∀ {esz:Nat} {x:D} {r:List D×Prop},IQ [] esz x=some r->IQ He esz x=some r:=λ{esz x r} h=>by
  unfold IQ at h⊢;split at h<;>try exact h
  split at h<;>try(cases h;done)
  rename_i h1;cases h1
 unfold ER at h⊢;split at h<;>try(cases h;done)
 split at h<;>try(cases h;done)
 rename_i h1
 try rw[h1]
 try dsimp only
 split at h<;>try(cases h;done)
 rename_i h2
 try rw[h2]
 try dsimp only
 split at h<;>try(cases h;done)
 rename_i h3
 try rw[h3]
 try dsimp only
 split at h<;>try(cases h;done)
 rename_i h4
 try rw[h4]
 try dsimp only
 split at h<;>try(cases h;done)
 rename_i h5
 try rw[h5]
 try dsimp only
 split at h<;>try(cases h;done)
 rename_i h6
 try rw[src h6]
 try dsimp only
 split at h<;>try(cases h;done)
 cases h;exact⟨rfl,rfl⟩
theorem ig {H:Hp}{g:Nat}{env:Ap}{o:Oper}{e:Aq}{tt:Nat->Option Aw}(k:Nat)(htt:Cx C.P tt){d:D}{p:Prop}(hw:CN ops env o=some true)(he:ER tt [] g k (BF env) o.op=some (d,[e],p))(hp:p):
  B5 C F ops H g env o d (some e):=by
 refine⟨λe' h=>by cases h;exact(Y6 (He:=[]) he).2,λHe ρ a w m _ fr hne hr=>.inr ⟨H9 hr hw,.inl ?_⟩⟩;obtain⟨g',h1,h2⟩:=Ih hr;rw[Tt h1]at he;obtain⟨q1,_⟩:=Y6 (He:=He) he;obtain⟨v,ρ',w',r1,r2⟩:=Qu htt m fr hne h2 q1 hp;exact⟨v,ρ',w',r1,r2.mem,r2.ext,r2.far,r2.rep⟩
end
noncomputable section
structure FI where
 nt:Nat
 res:List ResultVar
 code:Code
structure EV where
 tt:Nat->Option Aw
 xt:Nat->Option XI
 ft:Nat->Option FI
 np:Nat->Bool
 orc:Nat->List D->Option D
 mt:Nat->String->Option Nat
 nat:Nat->List D->Option D
structure FX (C:A9)(X:EV):Prop where
 tt:Cx C.P X.tt
 xt:Me C.P X.xt
 ft:∀f i,X.ft f=some i->∃fn,C.P.funcs[f]?=some fn/\fn.body=some i.code/\(fn.name == "runtime.NumGoroutine")=false/\Df fn.ntmps i.code=true/\fn.ntmps=i.nt/\fn.results.toList=i.res
 orc:∀f ds d,X.orc f ds=some d->AK C f ds d/\Ah ds
 mixed:C.P.follows .mixedOrders=true
 mt:∀t name f,X.mt t name=some f->∀v w,(method (C.P.types.size+Made.depth) t v name).run C.P w=.ok (f,v) w
 nat:∀f ds d,X.nat f ds=some d->K4 C f ds d
noncomputable def WK (env:Ap)(t:Nat):D:=List.rec (motive:=λ_=>D) .any (λp _ ih=>Bool.rec (motive:=λ_=>D) ih p.2 (Nat.beq p.1 t)) env
theorem Zz (t:Nat):∀env:Ap,WK env t=env.get t
 | []=>rfl
 |(k,d)::r=>by
  show Bool.rec (motive:=λ_=>D) (WK r t) d (Nat.beq k t)=_;rw[Zz t r];simp only[Ap.get];cases Nat.beq k t<;>rfl
noncomputable def Nz (env:Ap)(x:Operand):D:=match x with
 | .tmp t=>WK env t
 | .const v=>LB v
 | .global g=>.prim (.pointer (some ⟨g,0,none⟩))
 | .func f=>.clo (.func f) [] []
theorem Ox (env:Ap):Nz env=BF env:=by
 funext x
 cases x<;>first|rfl|exact Zz _ _
noncomputable def So (i:Nat)(l:List Nat):Bool:=List.rec (motive:=λ_=>Bool) false (λj _ ih=>Bool.rec (motive:=λ_=>Bool) ih true (Nat.beq i j)) l
theorem Zu (i:Nat):∀l:List Nat,So i l=Cq i l
 | []=>rfl
 |j::l=>by
  show Bool.rec (motive:=λ_=>Bool) (So i l) true (Nat.beq i j)=_;rw[Zu i l];simp only[Cq];cases Nat.beq i j<;>rfl
abbrev Iv:=Nat->List D->Hp->Nat->Option (D×Hp×Nat)
abbrev IG:=Nat->List D->Option D
def KS (b:Bool)(r:D×Hp×Nat):Option (D×Hp×Nat):=match b with
 |true=>some r
 |false=>none
def Sk (tt:Nat->Option Aw)(g:Operand->D)(t:Nat)(x ix:Operand):Option D:=match tt t with
 |some i=>match i.ti with
  | .slice _ esz _ _=>match g ix with
   | .prim (.int _ j)=>match g x with
    | .sl _ sz es=>match Nat.beq sz esz&&decide (0<=j)with
     |true=>match es[j.toNat]? with
      |some d=>some (.pptr d)
      |none=>none
     |false=>none
    |_=>none
   |_=>none
  |_=>none
 |none=>none
def Pg (X:EV)(g:Operand->D)(H:Hp)(n:Nat)(op:Op):Option (D×Hp×Nat):=match G8 X.tt g op with
 |some (d,_)=>KS (Mu X.tt g op) (d,H,n+1)
 |none=>none
def Si (X:EV)(g:Operand->D)(H:Hp)(n:Nat)(op:Op):Option (D×Hp×Nat):=match E8 X.tt X.xt g op with
 |some (d,_)=>KS (TJ X.xt g op) (d,H,n+1)
 |none=>none
def K7 {α:Type}(a:Option α)(b:Option α):Option α:=match a with
 |some x=>some x
 |none=>b
def iI (X:EV)(cl:Iv)(g:Operand->D)(H:Hp)(n:Nat)(op:Op):Option (D×Hp×Nat):=match op with
 | .call ⟨.value fop,args,_⟩=>match g fop with
  | .clo (.func f) first captured=>match X.nat f (first++args.toList.map g++captured)with
   |some d=>some (d,H,n+1)
   |none=>cl f (first++args.toList.map g++captured) H n
  |_=>none
 | .call ⟨.invoke r name,args,_⟩=>match g r with
  | .ifc t d0=>match X.mt t name with
   |some f=>cl f (d0::args.toList.map g) H n
   |none=>none
  |_=>none
 | .call ⟨.builtin .append,_,_⟩=>match ER X.tt H n n g op with
  |some (d,H',_)=>KS (QH X.tt H g op) (d,H',n+1)
  |none=>none
 | .makeSlice _ _ _=>match Kg X.tt n n g op with
  |some (d,e,_)=>KS (Wj X.tt g op) (d,e::H,n+1)
  |none=>none
 | .store _ _ _=>match Fl X.tt H g op with
  |some (k,e,_)=>KS (TK X.tt H g op) (.prim (.tuple #[]),Hp.set H k e,n+1)
  |none=>none
 | .load _ _ | .alloc _ | .box _ _ | .buildSlice _ _ _=>match Ej X.tt H n n g op with
  |some (d,ne,_)=>KS (Kk X.tt H g op) (d,C9 ne H,n+1)
  |none=>none
 | .indexAddr t x ix=>K7 (Pg X g H n op) (match Sk X.tt g t x ix with
  |some d=>some (d,H,n+1)
  |none=>none)
 | .makeInterface _ _ | .lookup _ _ _ _=>Si X g H n op
 | .binOp _ _ _ _ _=>K7 (Pg X g H n op) (Si X g H n op)
 |_=>Pg X g H n op
def U9 (X:EV)(cl:Iv)(ops:Array Oper)(s:St)(o:Oper):Option (D×Hp×Nat):=match CN ops s.env o with
 |some true=>iI X cl (Nz s.env) s.H s.n o.op
 |some false=>some (.prim (.tuple #[]),s.H,s.n+1)
 |none=>none
def MW (X:EV)(cl:Iv)(ops:Array Oper):List Oper->St->Option St
 | [],s=>some s
 |o::os,s=>match U9 X cl ops s o with
  |some (d,H',n')=>OH d λd=>HV n' λn'=>MW X cl ops os ⟨Bf s.env o.dst d,H',n'⟩
  |none=>none
def TG (d:D)(H:Hp)(n:Nat):D->Hp->Nat->Prop:=λd1 H1 n1=>d1=d/\H1=H/\n1=n
def NB (C:A9)(cl:Iv):Prop:=∀f ds H n d H' n',cl f ds H n=some (d,H',n')->Ct C f ds H n (TG d H' n')
def MC (C:A9)(cp:IG):Prop:=∀f ds d,cp f ds=some d->AK C f ds d/\Ah ds
section
variable {C:A9} {F:AY} {X:EV} {cl:Iv} {cp:IG} {ops:Array Oper}
theorem L0 {b:Bool}{r r':D×Hp×Nat}(h:KS b r=some r'):b=true/\r=r':=by
 cases b
 ·cases h
 ·cases h;exact⟨rfl,rfl⟩
theorem Xy {tt:Nat->Option Aw}{g:Operand->D}{t:Nat}{x ix:Operand}{d:D}(h:Sk tt g t x ix=some d):∃i e esz eby ez kk j nn es d',tt t=some i/\i.ti=.slice e esz eby ez/\g ix=.prim (.int kk j) /\
  g x=.sl nn esz es/\0<=j/\es[j.toNat]?=some d'/\d=.pptr d':=by
 unfold Sk at h;split at h<;>try(cases h;done)
 rename_i i h1;split at h<;>try(cases h;done)
 rename_i e esz eby ez h2;split at h<;>try(cases h;done)
 rename_i kk j h3;split at h<;>try(cases h;done)
 rename_i nn sz es h4;split at h<;>try(cases h;done)
 rename_i h5;split at h<;>try(cases h;done)
 rename_i d' h6;cases h;simp only[Ba,G4]at h5;obtain rfl:=CA h5.1;exact⟨i,e,sz,eby,ez,kk,j,nn,es,d',h1,h2,h3,h4,h5.2,h6,rfl⟩
theorem lI (hX:FX C X)(hcl:NB C cl){s:St}{o:Oper}{os:List Oper}{K:St->Prop}{d:D}{H':Hp}{n':Nat}(h:U9 X cl ops s o=some (d,H',n'))
  (hk:BH C F ops os ⟨Bf s.env o.dst d,H',n'⟩ K):BH C F ops (o::os) s K:=by
 unfold U9 at h;rw[Ox]at h;split at h<;>try(cases h;done)
 ·rename_i hw
  have pe:Pg X (BF s.env) s.H s.n o.op=some (d,H',n')->BH C F ops (o::os) s K:=λh=>by
   unfold Pg at h;split at h<;>try(cases h;done)
   rename_i hp;obtain⟨hb,hr⟩:=L0 h;cases hr;exact BH.p hX.tt hw hp (eH hp hb) hk
  have qe:Si X (BF s.env) s.H s.n o.op=some (d,H',n')->BH C F ops (o::os) s K:=λh=>by
   unfold Si at h;split at h<;>try(cases h;done)
   rename_i hp;obtain⟨hb,hr⟩:=L0 h;cases hr;exact BH.q hX.tt hX.xt hw hp (ck hp hb) hk
  have le:∀r,(match Ej X.tt s.H s.n s.n (BF s.env) o.op with
    |some (d,ne,_)=>KS (Kk X.tt s.H (BF s.env) o.op) (d,C9 ne s.H,s.n+1)
    |none=>none)=some r->r=(d,H',n')->BH C F ops (o::os) s K:=λr h hr=>by
   split at h<;>try(cases h;done)
   rename_i hp;obtain⟨hb,hr'⟩:=L0 h;rw[<-hr']at hr;cases hr;exact BH.l' s.n hX.tt hw hp (Va hp hb) hk
  unfold iI at h;split at h
  ·rename_i fop args tys ho
   split at h<;>try(cases h;done)
   rename_i f first captured hf
   split at h
   ·rename_i hn
    cases h;exact BH.nat hw ho hf rfl (hX.nat _ _ _ hn) hk
   refine d9N hw ho hf rfl (hcl _ _ _ _ _ _ _ h) λd1 H1 n1 hΦ=>?_
   obtain⟨rfl,rfl,rfl⟩:=hΦ;exact hk
  ·rename_i r name args tys ho
   split at h<;>try(cases h;done)
   rename_i t d0 hr;split at h<;>try(cases h;done)
   rename_i f hf;refine d9Q hw ho hr (hX.mt _ _ _ hf) rfl (hcl _ _ _ _ _ _ _ h) λd1 H1 n1 hΦ=>?_
   obtain⟨rfl,rfl,rfl⟩:=hΦ;exact hk
  ·split at h<;>try(cases h;done)
   rename_i hp;obtain⟨hb,hr⟩:=L0 h;cases hr;exact iX s.n hX.tt hw hp (VZ hp hb) hk
  ·split at h<;>try(cases h;done)
   rename_i hp;obtain⟨hb,hr⟩:=L0 h;cases hr;exact iZ s.n hX.tt hw hp (v8 hp hb) hk
  ·split at h<;>try(cases h;done)
   rename_i hp;obtain⟨hb,hr⟩:=L0 h;cases hr;exact BH.store hX.tt hw hp (cq hp hb) hk
  ·exact le _ h rfl
  ·exact le _ h rfl
  ·exact le _ h rfl
  ·exact le _ h rfl
  ·rename_i t x ix ho
   unfold K7 at h;split at h
   ·rename_i hr;cases h;exact pe hr
   ·split at h<;>try(cases h;done)
    rename_i hi;cases h;obtain⟨i,e,esz,eby,ez,kk,j,nn,es,d',a1,a2,a3,a4,a5,a6,rfl⟩:=Xy hi;exact BH.idx hX.tt hw ho a1 a2 a3 a4 a5 a6 hk
  ·exact qe h
  ·exact qe h
  ·unfold K7 at h
   split at h
   ·rename_i hr;cases h;exact pe hr
   ·exact qe h
  ·exact pe h
 ·rename_i hw
  cases h;exact BH.skip hw hk
theorem Q9 (hX:FX C X)(hcl:NB C cl){K:St->Prop}:∀ {os:List Oper} {s s':St},MW X cl ops os s=some s'->K s'->BH C F ops os s K
 | [],s,s',h,hk=>by
  simp only[MW,BL]at h;subst h;exact BH.nil hk
 |o::os,s,s',h,hk=>by
  simp only[MW]at h;split at h<;>try(cases h;done)
  rename_i hs;rw[Nd,MH]at h;exact lI hX hcl hs (Q9 hX hcl h hk)
theorem B5.l' {H:Hp}{g:Nat}{env:Ap}{o:Oper}{tt:Nat->Option Aw}(k:Nat)(htt:Cx C.P tt){d:D}{ne:Option Aq}{p:Prop}(hw:CN ops env o=some true)(he:Ej tt H g k (BF env) o.op=some (d,ne,p))(hp:p):B5 C F ops H g env o d ne:=by
 refine⟨λe h=>by subst h;exact Zb he,λHe ρ a w m hsub fr hne hr=>.inr ⟨H9 hr hw,.inl ?_⟩⟩;obtain⟨g',h1,h2⟩:=Ih hr;obtain⟨v,ρ',w',r1,r2⟩:=aq (g:=g') hsub htt m fr hne h2 (by rw[<-lC h1];exact he) hp;exact⟨v,ρ',w',r1,r2⟩
theorem lF {tt:Nat->Option Aw}{xt:Nat->Option XI}{g g':Operand->D}{op:Op}(h:∀x∈op.operands,g x=g' x):E8 tt xt g op=E8 tt xt g' op:=by
 cases op<;>simp only[Op.operands]at h<;>try rfl
 case binOp op t x y yt=>simp only[E8];rw[h x (by simp),h y (by simp)]
 case makeInterface t x=>simp only[E8];rw[h x (by simp)]
 case lookup t x ix ok=>simp only[E8];rw[h x (by simp),h ix (by simp)]
theorem B5.q {H:Hp}{g:Nat}{env:Ap}{o:Oper}{tt:Nat->Option Aw}{xt:Nat->Option XI}(htt:Cx C.P tt)(hxt:Me C.P xt){d:D}{p:Prop}(hw:CN ops env o=some true)(he:E8 tt xt (BF env) o.op=some (d,p))(hp:p):
  B5 C F ops H g env o d none:=by
 refine⟨by simp,λHe ρ a w m _ _ _ hr=>.inr ⟨H9 hr hw,.inl ?_⟩⟩;obtain⟨g',h1,h2⟩:=Ih hr;obtain⟨v,r1,r2⟩:=au (g:=g') htt hxt h2 (by rw[<-lF h1];exact he) hp;exact⟨v,ρ,w,r1,m,.refl _ _ _,λ_ _ _=>rfl,r2⟩
def N4 (b:Bool)(r:D×Option Aq):Option (D×Option Aq):=match b with
 |true=>some r
 |false=>none
theorem Qz {b:Bool}{r r':D×Option Aq}(h:N4 b r=some r'):b=true/\r=r':=by
 cases b
 ·cases h
 ·cases h;exact⟨rfl,rfl⟩
def QL (X:EV)(g:Operand->D)(op:Op):Option (D×Option Aq):=match G8 X.tt g op with
 |some (d,_)=>N4 (Mu X.tt g op) (d,none)
 |none=>none
def TP (X:EV)(g:Operand->D)(op:Op):Option (D×Option Aq):=match E8 X.tt X.xt g op with
 |some (d,_)=>N4 (TJ X.xt g op) (d,none)
 |none=>none
def iS (X:EV)(cp:IG)(g:Operand->D)(H:Hp)(n:Nat)(op:Op):Option (D×Option Aq):=match op with
 | .call ⟨.value fop,args,_⟩=>match g fop with
  | .clo (.func f) first captured=>match X.nat f (first++args.toList.map g++captured)with
   |some d=>some (d,none)
   |none=>match cp f (first++args.toList.map g++captured)with
    |some d=>some (d,none)
    |none=>none
  |_=>none
 | .call ⟨.builtin .append,_,_⟩=>match ER X.tt [] n n g op with
  |some (d,[e],_)=>N4 (QH X.tt [] g op) (d,some e)
  |_=>none
 | .load _ _ | .alloc _ | .box _ _ | .buildSlice _ _ _=>match Ej X.tt H n n g op with
  |some (d,ne,_)=>N4 (Kk X.tt H g op) (d,ne)
  |none=>none
 | .indexAddr t x ix=>K7 (QL X g op) (match Sk X.tt g t x ix with
  |some d=>some (d,none)
  |none=>none)
 | .makeInterface _ _ | .lookup _ _ _ _=>TP X g op
 | .binOp _ _ _ _ _=>K7 (QL X g op) (TP X g op)
 |_=>QL X g op
def PM (X:EV)(cp:IG)(ops:Array Oper)(H:Hp)(n:Nat)(env:Ap)(o:Oper):Option (D×Option Aq):=match CN ops env o with
 |some true=>iS X cp (Nz env) H n o.op
 |some false=>some (.prim (.tuple #[]),none)
 |none=>none
theorem UD (hX:FX C X)(hcp:MC C cp){H:Hp}{n:Nat}{env:Ap}{o:Oper}{d:D}{ne:Option Aq}(h:PM X cp ops H n env o=some (d,ne)):B5 C F ops H n env o d ne:=by
 unfold PM at h;rw[Ox]at h;split at h<;>try(cases h;done)
 ·rename_i hw
  have pe:QL X (BF env) o.op=some (d,ne)->B5 C F ops H n env o d ne:=λh=>by
   unfold QL at h;split at h<;>try(cases h;done)
   rename_i hp;obtain⟨hb,hr⟩:=Qz h;cases hr;exact B5.p hX.tt hw hp (eH hp hb)
  have qe:TP X (BF env) o.op=some (d,ne)->B5 C F ops H n env o d ne:=λh=>by
   unfold TP at h;split at h<;>try(cases h;done)
   rename_i hp;obtain⟨hb,hr⟩:=Qz h;cases hr;exact B5.q hX.tt hX.xt hw hp (ck hp hb)
  have le:∀r,(match Ej X.tt H n n (BF env) o.op with
    |some (d,ne,_)=>N4 (Kk X.tt H (BF env) o.op) (d,ne)
    |none=>none)=some r->r=(d,ne)->B5 C F ops H n env o d ne:=λr h hr=>by
   split at h<;>try(cases h;done)
   rename_i hp;obtain⟨hb,hr'⟩:=Qz h;rw[<-hr']at hr;cases hr;exact B5.l' n hX.tt hw hp (Va hp hb)
  unfold iS at h;split at h
  ·rename_i fop args tys ho
   split at h<;>try(cases h;done)
   rename_i f first captured hf
   split at h
   ·rename_i hn
    cases h;exact B5.nat hw ho hf rfl (hX.nat _ _ _ hn)
   split at h<;>try(cases h;done)
   rename_i hc;cases h;obtain⟨c1,c2⟩:=hcp _ _ _ hc;exact B5.call hw ho hf rfl c1 c2
  ·split at h<;>try(cases h;done)
   rename_i hp;obtain⟨hb,hr⟩:=Qz h;cases hr;exact ig n hX.tt hw hp (VZ hp hb)
  ·exact le _ h rfl
  ·exact le _ h rfl
  ·exact le _ h rfl
  ·exact le _ h rfl
  ·rename_i t x ix ho
   unfold K7 at h;split at h
   ·rename_i hr;cases h;exact pe hr
   ·split at h<;>try(cases h;done)
    rename_i hi;cases h;obtain⟨i,e,esz,eby,ez,kk,j,nn,es,d',a1,a2,a3,a4,a5,a6,rfl⟩:=Xy hi;exact B5.idx hX.tt hw ho a1 a2 a3 a4 a5 a6
  ·exact qe h
  ·exact qe h
  ·unfold K7 at h
   split at h
   ·rename_i hr;cases h;exact pe hr
   ·exact qe h
  ·exact pe h
 ·rename_i hw
  cases h;exact B5.skip hw
def Ni (X:EV)(cp:IG)(ops:Array Oper)(H:Hp)(n:Nat):List Nat->Ap->Hp->Option (Ap×Hp)
 | [],env,N=>some (env,N)
 |i::l,env,N=>match ops[i]? with
  |some o=>match PM X cp ops H (n+i) env o with
   |some (d,ne)=>OH d λd=>Ni X cp ops H n l (Bf env o.dst d) (C9 ne N)
   |none=>none
  |none=>none
theorem Y7 (hX:FX C X)(hcp:MC C cp){H:Hp}{n:Nat}:∀ {l:List Nat} {env env':Ap} {N N':Hp},Ni X cp ops H n l env N=some (env',N')->JJ C F ops H n l env N env' N'
 | [],env,env',N,N',h=>by
  simp only[Ni,BL,Bk]at h;obtain⟨rfl,rfl⟩:=h;exact .nil _ _
 |i::l,env,env',N,N',h=>by
  simp only[Ni]at h;split at h<;>try(cases h;done)
  rename_i o ho;split at h<;>try(cases h;done)
  rename_i d ne hs;rw[Nd]at h;exact .cons ho (UD hX hcp hs) (Y7 hX hcp h)
def YQ (ops:Array Oper)(done:List Nat):List Nat->Option (Nat×List Nat)
 | []=>none
 |i::r=>match JX (Gp ops i) done with
  |true=>some (i,r)
  |false=>match YQ ops done r with
   |some (j,r')=>some (j,i::r')
   |none=>none
def WO (ops:Array Oper):Nat->List Nat->List Nat->List Nat
 | 0,done,rest=>done.reverse++rest
 |f+1,done,rest=>match YQ ops done rest with
  |some (i,rest')=>WO ops f (i::done) rest'
  |none=>done.reverse++rest
def Vl (clo:List (Nat×List Nat)):List Nat->List Nat->List Nat->List Nat->List Nat×List Nat
 |_,[],pre,cur=>(pre.reverse,cur.reverse)
 |done,i::l,pre,cur=>match JX done (Fv clo i)with
  |true=>Vl clo (i::done) l pre (i::cur)
  |false=>Vl clo (i::done) l (i::(cur++pre)) []
def yz (ops:Array Oper):List Nat×List Nat:=
 Vl (Iz ops (WO ops ops.size [] (List.range ops.size)) []) [] (WO ops ops.size [] (List.range ops.size)) [] []
def zS:Op->Bool
 | .store _ _ _=>true
 | .call ⟨.builtin .append,_,_⟩=>true
 |_=>false
def fC (ops:Array Oper):List Nat->Option Nat
 | []=>none
 |i::l=>match ops[i]? with
  |some o=>match zS o.op with
   |true=>some i
   |false=>fC ops l
  |none=>none
def iU (i:Nat):List Nat->List Nat
 | []=>[]
 |j::l=>match Nat.beq i j with
  |true=>[]
  |false=>j::iU i l
def yp (g:Operand->D):Op->Option Nat
 | .store _ x _=>match g x with
  | .optr k _ _ _ _=>some k
  |_=>none
 | .call ⟨.builtin .append,args,_⟩=>match args.toList with
  | [s,_]=>match g s with
   | .osl k _ _ _ _=>some k
   |_=>none
  |_=>none
 |_=>none
def WJ (X:EV)(e:Aq)(n:Nat)(g:Operand->D)(op:Op):Option (D×Aq):=match op with
 | .store _ _ _=>match Fl X.tt [e] g op with
  |some (_,e',_)=>match TK X.tt [e] g op with
   |true=>some (.prim (.tuple #[]),e')
   |false=>none
  |none=>none
 |_=>match ER X.tt [e] n n g op with
  |some (d,[e'],_)=>match QH X.tt [e] g op with
   |true=>some (d,e')
   |false=>none
  |_=>none
def I3 (ia:Option Nat)(i:Nat):Bool:=match ia with
 |some j=>Nat.beq i j
 |none=>false
def IJ (ia:Option Nat)(accE:Option Aq)(R:Hp)(b:Bool):Hp:=match ia with
 |none=>match accE with
  |some e=>match b with
   |true=>e::R
   |false=>R
  |none=>R
 |some _=>R
def JZ (X:EV)(cp:IG)(ops:Array Oper)(iw:Nat)(ia:Option Nat)(R:Hp)(clo:List Nat)(n:Nat):List Nat->Ap->Hp->Option Aq->Option Aq->Option (Ap×Hp×Aq×Aq)
 | [],env,N,accE,acc=>match accE with
  |some e=>match acc with
   |some e'=>some (env,N,e,e')
   |none=>none
  |none=>none
 |i::l,env,N,accE,acc=>match ops[i]? with
  |some o=>match Nat.beq i iw with
   |true=>match acc with
    |some _=>none
    |none=>match accE with
     |some e=>match CN ops env o with
      |some true=>match WJ X e (n+i) (Nz env) o.op with
       |some (d,e')=>JZ X cp ops iw ia R clo n l (Bf env o.dst d) N accE (some e')
       |none=>none
      |_=>none
     |none=>none
   |false=>match I3 ia i with
    |true=>match accE with
     |some _=>none
     |none=>match PM X cp ops R (n+i) env o with
      |some (d,some e)=>OH d λd=>JZ X cp ops iw ia R clo n l (Bf env o.dst d) N (some e) acc
      |_=>none
    |false=>match PM X cp ops (IJ ia accE R (Cq i clo)) (n+i) env o with
     |some (d,ne)=>OH d λd=>JZ X cp ops iw ia R clo n l (Bf env o.dst d) (C9 ne N) accE acc
     |none=>none
  |none=>none
theorem Lx {iw:Nat}{ia:Option Nat}{R:Hp}{clo:List Nat}{n:Nat}:∀ {l:List Nat} {env env':Ap} {N N':Hp} {accE acc:Option Aq} {e e':Aq},JZ X cp ops iw ia R clo n l env N accE acc=some (env',N',e,e') ->
  (∀a,accE=some a->e=a)/\(∀a,acc=some a->e'=a)
 | [],_,_,_,_,_,_,_,_,h=>by
  simp only[JZ]at h;split at h<;>try(cases h;done)
  split at h<;>try(cases h;done)
  simp only[BL,Bk]at h;exact⟨λa ha=>by cases ha;exact h.2.2.1.symm,λa ha=>by cases ha;exact h.2.2.2.symm⟩
 |i::l,_,_,_,_,_,_,_,_,h=>by
  simp only[JZ]at h;split at h<;>try(cases h;done)
  split at h
  ·split at h<;>try(cases h;done)
   split at h<;>try(cases h;done)
   split at h<;>try(cases h;done)
   split at h<;>try(cases h;done)
   exact⟨(Lx h).1,by simp⟩
  ·split at h
   ·split at h<;>try(cases h;done)
    split at h<;>try(cases h;done)
    rw[Nd]at h;exact⟨by simp,(Lx h).2⟩
   ·split at h<;>try(cases h;done)
    rw[Nd]at h;exact Lx h
theorem pU (hX:FX C X){W:WR}{n:Nat}{env:Ap}{o:Oper}{d:D}(hw:CN ops env o=some true)(h:WJ X W.e n (BF env) o.op=some (d,W.e')):Ij C F ops W n env o d:=by
 unfold WJ at h;split at h
 ·split at h<;>try(cases h;done)
  rename_i he;split at h<;>try(cases h;done)
  rename_i hk;simp only[BL,Bk]at h;obtain⟨rfl,h2⟩:=h;rw[h2]at he;exact Ij.store hX.tt hw he (cq he hk)
 ·split at h<;>try(cases h;done)
  rename_i he;split at h<;>try(cases h;done)
  rename_i hk;simp only[BL,Bk]at h;obtain⟨rfl,h2⟩:=h;rw[h2]at he;exact Ij.app n hX.tt hw he (VZ he hk)
theorem RA {ia:Option Nat}{i:Nat}:I3 ia i=true↔ia=some i:=by
 cases ia with
 |none=>simp[I3]
 |some j=>
  simp only[I3,BL];exact⟨λh=>(CA h).symm,λh=>by rw[h];exact Ll _⟩
theorem Qw (hX:FX C X)(hcp:MC C cp){W:WR}(hwa:W.ia≠some W.iw){clo:List Nat}(hclo:∀j∈clo,Dx ops W.iw j){n:Nat}:∀ {l:List Nat} {env env':Ap} {N N':Hp} {accE acc:Option Aq},
  JZ X cp ops W.iw W.ia W.R clo n l env N accE acc=some (env',N',W.e,W.e')->Iy C F ops W n l env N env' N'
 | [],env,env',N,N',accE,acc,h=>by
  simp only[JZ]at h;split at h<;>try(cases h;done)
  split at h<;>try(cases h;done)
  simp only[BL,Bk]at h;obtain⟨rfl,rfl,_⟩:=h;exact .nil _ _
 |i::l,env,env',N,N',accE,acc,h=>by
  simp only[JZ,Ox]at h;split at h<;>try(cases h;done)
  rename_i o ho;split at h
  ·rename_i hb
   have hb:=CA hb;split at h<;>try(cases h;done)
   split at h<;>try(cases h;done)
   rename_i e0;split at h<;>try(cases h;done)
   rename_i hw;split at h<;>try(cases h;done)
   rename_i d e1 he;obtain⟨h1,h2⟩:=Lx h;rw[<-h1 _ rfl,<-h2 _ rfl]at he;exact .cons (ne:=none) ho (.inr (.inl ⟨hb,by rw[hb];exact hwa,rfl,pU hX hw he⟩)) (Qw hX hcp hwa hclo h)
  ·rename_i hb
   have hne:i≠W.iw:=λhi=>by rw[hi,Ll]at hb;cases hb
   split at h
   ·rename_i hi
    have hi:=RA.1 hi;split at h<;>try(cases h;done)
    split at h<;>try(cases h;done)
    rename_i d e0 hs;rw[Nd]at h;have h1:=(Lx h).1 _ rfl;rw[<-h1]at hs;exact .cons (ne:=none) ho (.inr (.inr ⟨hne,hi,rfl,UD (F:=F) hX hcp hs⟩)) (Qw hX hcp hwa hclo h)
   ·rename_i hi
    have hi:W.ia≠some i:=λh=>by rw[RA.2 h]at hi;cases hi
    split at h<;>try(cases h;done)
    rename_i d ne hs;rw[Nd]at h;have hacc:=(Lx h).1;refine .cons ho (.inl ⟨hne,hi,?_⟩) (Qw hX hcp hwa hclo h);have hst:=UD (F:=F) hX hcp hs;unfold IJ at hst;cases hia:W.ia with
    |none=>
     rw[hia]at hst;cases accE with
     |none=>exact .inr hst
     |some a=>
      have:=hacc a rfl
      subst this;dsimp only at hst;cases hm:Cq i clo with
      |true=>rw[hm]at hst;exact .inl ⟨rfl,hclo i (Hj.1 hm),hst⟩
      |false=>rw[hm]at hst;exact .inr hst
    |some ia=>rw[hia]at hst;exact .inr hst
def eV (s:St)(N1:Hp)(k:Nat):Option (Option Nat×Option Aq×Hp):=match Hp.get s.H k with
 |some e=>some (none,some e,Hp.del s.H k)
 |none=>match Hp.get N1 k with
  |some e=>some (some (e.g-s.n),none,s.H)
  |none=>none
def iP (n:Nat)(pre clo:List Nat)(e:Aq)(iw:Nat):Option Nat->Bool
 |none=>true
 |some ia=>Nat.beq e.g (n+ia)&&Cq ia clo&&Cq ia pre && !(Nat.beq ia iw)
def Za (X:EV)(cl:Iv)(cp:IG)(ops:Array Oper)(pre suf:List Nat)(iw:Nat)(s:St):Option St:=match Ni X cp ops s.H s.n (iU iw pre) s.env []with
 |some (env1,N1)=>match yp (Nz env1) (ops.getD iw default).op with
  |some k=>match eV s N1 k with
   |some (ia,accE,R)=>match Cq iw pre with
    |true=>match JZ X cp ops iw ia R (Fv (Iz ops (pre++suf) []) iw) s.n pre s.env [] accE none with
     |some (env,N,e,e')=>match (Nat.beq e'.g e.g||Nat.beq e'.g (s.n+iw))&&iP s.n pre (Fv (Iz ops (pre++suf) []) iw) e iw ia with
      |true=>HV (s.n+ops.size) λn=>MW X cl ops (suf.map λj=>ops.getD j default) ⟨env,N++e'::R,n⟩
      |false=>none
     |none=>none
    |false=>none
   |none=>none
  |none=>none
 |none=>none
def U8 (X:EV)(cl:Iv)(cp:IG)(ops:Array Oper)(s:St):Option St:=match yz ops with
 |(pre,suf)=>match HL ops pre suf with
  |true=>match (match fC ops pre with
    |some iw=>Za X cl cp ops pre suf iw s
    |none=>none)with
   |some s'=>some s'
   |none=>match Ni X cp ops s.H s.n pre s.env []with
    |some (env,N)=>HV (s.n+ops.size) λn=>MW X cl ops (suf.map λj=>ops.getD j default) ⟨env,N++s.H,n⟩
    |none=>none
  |false=>none
noncomputable def dd (e:Ap):List Nat->Ap:=List.rec (motive:=λ_=>List Nat->Ap) (λ_=>[]) (λp _ ih seen=>Bool.rec (motive:=λ_=>Ap) (p::ih (p.1::seen)) (ih seen) (So p.1 seen)) e
theorem pG (k:Nat)(d:D)(r:Ap)(seen:List Nat):dd ((k,d)::r) seen=match Cq k seen with
  |true=>dd r seen
  |false=>(k,d)::dd r (k::seen):=by
 show Bool.rec (motive:=λ_=>Ap) _ _ (So k seen)=_;rw[Zu];cases Cq k seen<;>rfl
theorem VI:∀(e:Ap) (seen:List Nat) (t:Nat),t∉seen->(dd e seen).get t=e.get t
 | [],_,_,_=>rfl
 |(k,d)::r,seen,t,h=>by
  rw[pG];cases hb:Cq k seen with
  |true=>
   dsimp only;have hk:k≠t:=λhk=>h (hk ▸ Hj.1 hb)
   rw[VI r seen t h,I7,AG hk]
  |false=>
   dsimp only;rw[I7,I7]
   by_cases hk:k=t
   ·rw[AH hk,AH hk]
   ·rw[AG hk,AG hk,VI r (k::seen) t (by simp;exact⟨λh=>hk h.symm,h⟩)]
def N6 (f:D->List Nat->List Nat):List D->List Nat->List Nat
 | [],acc=>acc
 |d::l,acc=>N6 f l (f d acc)
def KW:Nat->D->List Nat->List Nat
 | 0,_,acc=>acc
 |n+1,d,acc=>match d with
  | .osl k _ _ _ _=>k::acc
  | .optr k _ _ _ _=>k::acc
  | .agg l=>N6 (KW n) l acc
  | .tup l=>N6 (KW n) l acc
  | .clo _ a b=>N6 (KW n) a (N6 (KW n) b acc)
  | .gd _ d=>KW n d acc
  | .ifc _ d=>KW n d acc
  |_=>acc
def dF:Ap->List Nat->List Nat
 | [],acc=>acc
 |(_,d)::r,acc=>dF r (KW 5 d acc)
def SX:Hp->List Nat->List Nat
 | [],acc=>acc
 |e::r,acc=>SX r (N6 (KW 5) e.es acc)
def LE (p:Aq->Bool):Hp->Hp
 | []=>[]
 |e::r=>match p e with
  |true=>e::LE p r
  |false=>LE p r
theorem Q0 (p:Aq->Bool):∀H:Hp,(LE p H).Sublist H
 | []=>.slnil
 |e::r=>by
  simp only[LE];split
  ·exact(Q0 p r).cons_cons e
  ·exact(Q0 p r).cons e
def Ny {α:Type}:List Nat->(List Nat->α)->α
 | [],k=>k []
 |n::l,k=>HV n λn=>Ny l λl=>k (n::l)
theorem Rk {α:Type}:∀(l:List Nat) (k:List Nat->α),Ny l k=k l
 | [],_=>rfl
 |n::l,k=>by simp only[Ny,MH,Rk l]
def Pt {α:Type}:Hp->(Hp->α)->α
 | [],k=>k []
 |e::l,k=>Pt l λl=>k (e::l)
theorem Uv {α:Type}:∀(l:Hp) (k:Hp->α),Pt l k=k l
 | [],_=>rfl
 |e::l,k=>by simp only[Pt,Uv l]
def Wf {α:Type}(n:Nat)(env:Ap)(H:Hp)(k:Hp->α):α:=Ny (SX H (dF env [])) λks=>Pt (LE (λe=>match Nat.blt e.g n with
  |true=>true
  |false=>Cq e.k ks) H) k
theorem vj {α:Type}(n:Nat)(env:Ap)(H:Hp)(k:Hp->α):∃H':Hp,H'.Sublist H/\Wf n env H k=k H':=⟨_,Q0 _ _,by unfold Wf;rw[Rk,Uv]⟩
def Wg {α:Type}(n:Nat)(d:D)(H:Hp)(k:Hp->α):α:=
 Ny (SX (LE (λe=>Nat.blt e.g n) H) (KW 5 d [])) λks=>Ny (SX (LE (λe=>Cq e.k ks) H) ks) λks=>Pt (LE (λe=>match Nat.blt e.g n with
  |true=>true
  |false=>Cq e.k ks) H) k
theorem vk {α:Type}(n:Nat)(d:D)(H:Hp)(k:Hp->α):∃H':Hp,H'.Sublist H/\Wg n d H k=k H':=⟨_,Q0 _ _,by unfold Wg;rw[Rk,Rk,Uv]⟩
def PU (f:St->Option (Exit×St))(n0:Nat):Nat->St->Option (Exit×St)
 | 0,_=>none
 |k+1,s=>Wf n0 s.env s.H λH=>match f ⟨dd s.env [],H,s.n⟩with
  |some (.normal,s')=>PU f n0 k s'
  |r=>r
def EH (X:EV)(cl:Iv)(cp:IG)(lf:Nat):Code->St->Option (Exit×St)
 | .skip,s=>some (.normal,s)
 | .region _ ops draw,s=>match draw with
  |true=>match U8 X cl cp ops s with
   |some s'=>some (.normal,s')
   |none=>none
  |false=>match MW X cl ops ops.toList s with
   |some s'=>some (.normal,s')
   |none=>none
 | .seq a b,s=>match EH X cl cp lf a s with
  |some (.normal,s')=>EH X cl cp lf b s'
  |r=>r
 | .cond c a b,s=>match Nz s.env c with
  | .prim (.bool true)=>EH X cl cp lf a s
  | .prim (.bool false)=>EH X cl cp lf b s
  |_=>none
 | .block i b,s=>match EH X cl cp lf b s with
  |some (.exit j,s')=>match Nat.beq j i with
   |true=>some (.normal,s')
   |false=>some (.exit j,s')
  |r=>r
 | .loop b,s=>PU (EH X cl cp lf b) (lf/1048576) (lf%1048576) s
 | .exit i,s=>some (.exit i,s)
 | .ret,s=>some (.ret,s)
 |_,_=>none
def isS (e:Exit)(s:St):Exit->St->Prop:=λe1 s1=>e1=e/\s1=s
theorem d9K {c:Code}{s s2:St}{Q:Exit->St->Prop}(he:∀t,s2.env.get t=s.env.get t)(hH:s2.H=s.H)(hn:s2.n=s.n)(h:Ok C F c s2 Q):Ok C F c s Q:=
 λhd ρ a w hs=>h hd ρ a w ⟨by rw[hH];exact hs.mem,by rw[hn];exact hs.fresh,by rw[hH,hn];exact hs.gen,λt=>by rw[he,hH];exact hs.env t,hs.nt,hs.dfr⟩
theorem Ok.subH {c:Code}{env:Ap}{H H':Hp}{n:Nat}{Q:Exit->St->Prop}(hs:H'.Sublist H)(h:Ok C F c ⟨env,H',n⟩ Q):Ok C F c ⟨env,H,n⟩ Q:=
 λhd ρ a w hS=>by
  obtain⟨m,hO⟩:=hS.mem.sub hs;exact h hd ρ a w ⟨m,hS.fresh,λe he=>hS.gen e (hs.subset he),λt=>(hS.env t).anti hO,hS.nt,hS.dfr⟩
theorem Ct.subH {f:Nat}{ds:List D}{H H1 H2:Hp}{n n':Nat}{d:D}(hs:H2.Sublist H1)(h:Ct C f ds H n (TG d H1 n')):Ct C f ds H n (TG d H2 n'):=by
 refine⟨h.1,λF ρ w vs m hfr hg hvs hr=>(h.2 F ρ w vs m hfr hg hvs hr).mono ?_⟩;rintro e w' ⟨v,d',H',n2,ρ',rfl,⟨rfl,rfl,rfl⟩,m',x,fr,gn,rep⟩;obtain⟨m2,hO⟩:=m'.sub hs;exact⟨v,_,_,_,ρ',rfl,⟨rfl,rfl,rfl⟩,m2,⟨x.size,x.link,λb hb hb'=>⟨λh=>(x.pure b hb hb').1 (hO b h),(x.pure b hb hb').2⟩,x.shape⟩,fr,λe he=>gn e (hs.subset he),rep.anti hO⟩
theorem ky (hX:FX C X)(hcl:NB C cl)(hcp:MC C cp){i:Nat}{s s':St}(h:U8 X cl cp ops s=some s'):Ok C F (.region i ops true) s (isS .normal s'):=by
 unfold U8 at h;split at h;rename_i pre suf ho;split at h<;>try(cases h;done)
 rename_i hc;split at h
 ·rename_i s1 hh
  cases h
  revert hh
  intro h;split at h<;>try(cases h;done)
  rename_i iw _;unfold Za at h;simp only[Ox]at h;split at h<;>try(cases h;done)
  split at h<;>try(cases h;done)
  split at h<;>try(cases h;done)
  rename_i k _ ia accE R hwb;split at h<;>try(cases h;done)
  rename_i hm;split at h<;>try(cases h;done)
  rename_i env N e e' hp;split at h<;>try(cases h;done)
  rename_i hg;rw[MH]at h;simp only[Ba,JC]at hg;obtain⟨hg1,hg2⟩:=hg;have hreach:∀j∈Fv (Iz ops (pre++suf) []) iw,Dx ops iw j:=λj hj=>OU (OP _ _ (by simp)) _ _ hj
  have hia:∀j,ia=some j->e.g=s.n+j/\Dx ops iw j/\j∈pre/\j≠iw:=λj hj=>by
   subst hj;simp only[iP,Ba,Bl]at hg2;exact⟨CA hg2.1.1.1,hreach j (Hj.1 hg2.1.1.2),Hj.1 hg2.1.2,λh=>by rw[h,Ll]at hg2;cases hg2.2⟩
  have hacc:=(Lx hp).1;have hst:s.H.Perm (WR.start ⟨iw,ia,e,e',R⟩):=by
   unfold eV at hwb;split at hwb
   ·rename_i e0 he
    cases hwb;obtain⟨H1,H2,q1,_,q3⟩:=Mj e0 he;rw[q3,hacc e0 rfl];unfold WR.start;rw[q1];exact HT
   ·split at hwb<;>try(cases hwb;done)
    cases hwb;exact List.Perm.refl _
  exact d9I (W:=⟨iw,ia,e,e',R⟩) hX.mixed hc hst (λj hj=>⟨(hia j hj).1,(hia j hj).2.1,(hia j hj).2.2.1⟩) (Hj.1 hm) (hg1.imp CA CA)
   (Qw (W:=⟨iw,ia,e,e',R⟩) hX hcp (λh=>(hia iw h).2.2.2 rfl) hreach hp) (Q9 hX hcl h ⟨rfl,rfl⟩)
 ·split at h<;>try(cases h;done)
  rename_i env N hp;rw[MH]at h;exact d9G hX.mixed hc (Y7 hX hcp hp) (Q9 hX hcl h ⟨rfl,rfl⟩)
theorem Ig (hX:FX C X)(hcl:NB C cl)(hcp:MC C cp){lf:Nat}:∀ {c:Code} {s s':St} {e:Exit},EH X cl cp lf c s=some (e,s')->Ok C F c s (isS e s')
 | .skip,s,s',e,h=>by simp only[EH,BL,Bk]at h;obtain⟨rfl,rfl⟩:=h;exact Ok.skip ⟨rfl,rfl⟩
 | .region i ops draw,s,s',e,h=>by
  simp only[EH]at h;split at h
  ·split at h<;>try(cases h;done)
   rename_i hd;cases h;exact ky hX hcl hcp hd
  ·split at h<;>try(cases h;done)
   rename_i hd;cases h;exact Ok.region (Q9 hX hcl hd ⟨rfl,rfl⟩)
 | .seq a b,s,s',e,h=>by
  simp only[EH]at h;refine Ok.seq ?_;split at h
  ·rename_i s1 h1
   refine(Ig hX hcl hcp h1).mono ?_;rintro _ _ ⟨rfl,rfl⟩;exact Ig hX hcl hcp h
  ·rename_i hne
   refine(Ig hX hcl hcp h).mono ?_;rintro e1 s1 ⟨h1,h2⟩;rw[h1,h2];cases e with
   |normal=>exact Af h (hne _)
   |_=>exact⟨rfl,rfl⟩
 | .cond c a b,s,s',e,h=>by
  simp only[EH,Ox]at h;have hr:∀x,BF s.env c=.prim (.bool x)->∀ρ a w,Bn C F ρ s a w->a.eval c=.bool x:=λx hx ρ a w hs=>by
   have:=De hs.env c
   rw[hx]at this;generalize a.eval c=v at this;cases this;rfl
  split at h
  ·rename_i hx
   exact Ok.cond true (hr _ hx) (λ_=>Ig hX hcl hcp h) (λh=>by cases h)
  ·rename_i hx
   exact Ok.cond false (hr _ hx) (λh=>by cases h) (λ_=>Ig hX hcl hcp h)
  ·cases h
 | .block i b,s,s',e,h=>by
  simp only[EH]at h;refine Ok.block ?_;split at h
  ·rename_i j s1 h1
   refine(Ig hX hcl hcp h1).mono ?_;rintro _ _ ⟨rfl,rfl⟩;dsimp only;split at h
   ·rename_i hb
    cases h;rw[AH (CA hb)];exact⟨rfl,rfl⟩
   ·rename_i hb
    cases h;rw[AG (λhj=>by rw[hj,Ll]at hb;cases hb)];exact⟨rfl,rfl⟩
  ·rename_i hne
   refine(Ig hX hcl hcp h).mono ?_;rintro e1 s1 ⟨h1,h2⟩;rw[h1,h2];cases e with
   |exit j=>exact Af h (hne _ _)
   |_=>exact⟨rfl,rfl⟩
 | .loop b,s,s',e,h=>by
  simp only[EH]at h;refine Ok.loop (λm s=>PU (EH X cl cp lf b) (lf/1048576) m s=some (e,s')) h λm s1 hI=>?_
  cases m with
  |zero=>cases hI
  |succ m=>
   simp only[PU]at hI;obtain⟨H2,hsub,hgc⟩:=vj (α:=Option (Exit×St)) (lf/1048576) s1.env s1.H (λH=>match EH X cl cp lf b ⟨dd s1.env [],H,s1.n⟩with
    |some (.normal,s')=>PU (EH X cl cp lf b) (lf/1048576) m s'
    |r=>r)
   rw[hgc]at hI;refine d9K (s2:=⟨dd s1.env [],s1.H,s1.n⟩) (λt=>VI _ _ _ (by simp)) rfl rfl ?_;refine Ok.subH hsub ?_;split at hI
   ·rename_i s2 h2
    refine(Ig hX hcl hcp h2).mono ?_;rintro _ _ ⟨rfl,rfl⟩;exact⟨m,Hz m,hI⟩
   ·rename_i hne
    refine(Ig hX hcl hcp hI).mono ?_;rintro e1 s1 ⟨h1,h2⟩;rw[h1,h2];cases e with
    |normal=>exact Af hI (hne _)
    |_=>exact⟨rfl,rfl⟩
 | .exit i,s,s',e,h=>by simp only[EH,BL,Bk]at h;obtain⟨rfl,rfl⟩:=h;exact Ok.exit ⟨rfl,rfl⟩
 | .ret,s,s',e,h=>by simp only[EH,BL,Bk]at h;obtain⟨rfl,rfl⟩:=h;exact Ok.ret ⟨rfl,rfl⟩
 | .rangeFunc ..,_,_,_,h=>by simp[EH]at h
 | .scope _,_,_,_,h=>by simp[EH]at h
 | .label _,_,_,_,h=>by simp[EH]at h
 | .goto _,_,_,_,h=>by simp[EH]at h
 | .refuse _,_,_,_,h=>by simp[EH]at h
def okR (tt:Nat->Option Aw)(s:St):List ResultVar->Bool
 | []=>true
 | .tmp _::r=>okR tt s r
 | .cell a t::r=>Kk tt s.H (λ_=>s.env.get a) (.load t (.tmp 0))&&okR tt s r
theorem R1 {tt:Nat->Option Aw}{s:St}:∀ {rs:List ResultVar} {l:List D} {p:Prop},KC tt s rs=some (l,p)->okR tt s rs=true->p
 | [],_,_,h,_=>by simp only[KC,BL,Bk]at h;obtain⟨_,rfl⟩:=h;trivial
 |r::rs,l,p,h,hk=>by
  simp only[KC]at h;split at h<;>try(cases h;done)
  rename_i d q h1;split at h<;>try(cases h;done)
  rename_i l' q' h2;cases h;cases r with
  |tmp t=>
   simp only[NT,BL,Bk]at h1;obtain⟨_,rfl⟩:=h1;exact⟨trivial,R1 h2 hk⟩
  |cell a t=>
   simp only[okR,Ba]at hk;simp only[NT]at h1;split at h1<;>try(cases h1;done)
   rename_i he;cases h1;exact⟨Va he hk.1,R1 h2 hk.2⟩
def SS (tt:Nat->Option Aw)(s:St)(rs:List ResultVar):Option (D×Hp×Nat):=match I4 tt s rs with
 |some (d,_)=>KS (okR tt s rs) (d,s.H,s.n)
 |none=>none
theorem Y8 {tt:Nat->Option Aw}{s:St}{rs:List ResultVar}{d:D}{H:Hp}{n:Nat}(h:SS tt s rs=some (d,H,n)):∃p,I4 tt s rs=some (d,p)/\p/\H=s.H/\n=s.n:=by
 unfold SS at h;split at h<;>try(cases h;done)
 rename_i d' p hr;obtain⟨hb,he⟩:=L0 h;cases he;refine⟨p,hr,?_,rfl,rfl⟩;unfold I4 at hr;split at hr<;>try(cases hr;done)
 ·rename_i ha;cases hr;exact R1 ha hb
 ·rename_i ha;cases hr;exact R1 ha hb
def SY (X:EV)(cl:Iv)(cp:IG)(lf f:Nat)(ds:List D)(H:Hp)(n:Nat):Option (D×Hp×Nat):=match X.ft f with
 |some i=>match Nat.ble ds.length i.nt with
  |true=>match EH X cl cp (lf+n*1048576) i.code ⟨Dg 0 ds,H,n⟩with
   |some (.normal,s)=>SS X.tt s i.res
   |some (.ret,s)=>SS X.tt s i.res
   |_=>none
  |false=>none
 |none=>none
def SK (X:EV)(cl:Iv)(cp:IG)(lf f:Nat)(ds:List D):Option D:=match X.orc f ds with
 |some d=>some d
 |none=>match X.np f with
  |true=>none
  |false=>match IL (Hq 20) ds with
   |true=>match SY X cl cp lf f ds [] 0 with
    |some (d,H,_)=>OJ 20 H d
    |none=>none
   |false=>none
def Gg (X:EV)(lf:Nat):Nat->IG×Iv
 | 0=>(λ_ _=>none,λ_ _ _ _=>none)
 |fu+1=>(SK X (Gg X lf fu).2 (Gg X lf fu).1 lf,λf ds H n=>match SK X (Gg X lf fu).2 (Gg X lf fu).1 lf f ds with
  |some d=>some (d,H,n+1)
  |none=>match SY X (Gg X lf fu).2 (Gg X lf fu).1 lf f ds H n with
   |some (d,H',n')=>Wg n d H' λH2=>some (d,H2,n')
   |none=>none)
theorem ZJ (hX:FX C X){lf f:Nat}{ds:List D}{H H':Hp}{n n':Nat}{d:D}(h:SY X cl cp lf f ds H n=some (d,H',n')):
  ∃fn i e s p,X.ft f=some i/\C.P.funcs[f]?=some fn/\fn.body=some i.code/\(fn.name == "runtime.NumGoroutine")=false/\Df fn.ntmps i.code=true/\Nat.ble ds.length fn.ntmps=true /\
   (e=.normal\/e=.ret)/\EH X cl cp (lf+n*1048576) i.code ⟨Dg 0 ds,H,n⟩=some (e,s)/\I4 X.tt s fn.results.toList=some (d,p)/\p/\H'=s.H/\n'=s.n:=by
 unfold SY at h;split at h<;>try(cases h;done)
 rename_i i hi;obtain⟨fn,a1,a2,a3,a4,a5,a6⟩:=hX.ft f i hi;split at h<;>try(cases h;done)
 rename_i hb;split at h<;>try(cases h;done)
 ·rename_i s hc
  obtain⟨p,b1,b2,b3,b4⟩:=Y8 h;exact⟨fn,i,.normal,s,p,hi,a1,a2,a3,a4,by rw[a5];exact hb,.inl rfl,hc,by rw[a6];exact b1,b2,b3,b4⟩
 ·rename_i s hc
  obtain⟨p,b1,b2,b3,b4⟩:=Y8 h;exact⟨fn,i,.ret,s,p,hi,a1,a2,a3,a4,by rw[a5];exact hb,.inr rfl,hc,by rw[a6];exact b1,b2,b3,b4⟩
theorem YR (hX:FX C X)(hcl:NB C cl)(hcp:MC C cp){lf f:Nat}{ds:List D}{d:D}(h:SK X cl cp lf f ds=some d):AK C f ds d/\Ah ds:=by
 unfold SK at h;split at h
 ·rename_i ho;cases h;exact hX.orc _ _ _ ho
 ·split at h<;>try(cases h;done)
  split at h<;>try(cases h;done)
  rename_i hp;split at h<;>try(cases h;done)
  rename_i d0 H0 n0 hr;obtain⟨fn,i,e,s,p,_,a1,a2,a3,a4,a5,a6,a7,a8,a9,rfl,rfl⟩:=ZJ hX hr;obtain⟨z1,z2⟩:=LC h;refine⟨AZ.intro hX.tt a1 a2 a3 a4 a5 λF=>(Ig hX hcl hcp a7).mono ?_,⟨λx hx=>Hk (JT hp x hx)⟩⟩;rintro _ _ ⟨rfl,rfl⟩;exact⟨a6,d0,p,a8,a9,d,z1,z2,rfl⟩
theorem Ct.ofPure {f:Nat}{ds:List D}{d:D}{H:Hp}{n:Nat}(h:AK C f ds d)(hp:Ah ds):Ct C f ds H n (TG d H (n+1)):=by
 refine⟨h.1,λF ρ w vs m hfr hg hvs hr=>(h.2 (AM F.X ρ H) w vs m.g (BT m.gn m.size) (λb hb=>m.own_lt hb) hvs λi x hx=>hp.out x (Ay hx) _ _ _ _ _ (hr i x hx)).mono ?_⟩;rintro e w' ⟨v,d',rfl,hb,rfl,hrep⟩;have x:BX ρ (AM F.X ρ H) w ρ (AM F.X ρ H) w':=⟨hb.size,λ_ _ _ h=>h,λb hb' hO=>⟨hO,hb.block b hb'⟩,λb cs T fz hh=>⟨cs,_,by
  rw[hb.block b (C7.1 hh).1];exact hh,rfl⟩⟩
 exact⟨v,_,_,_,ρ,rfl,⟨rfl,rfl,rfl⟩,m.same x hb.os hb.tape hb.output hb.block,x,λk g hg=>hfr k g (by omega),λe he=>Dc (hg e he),hrep.nol⟩
theorem ap (hX:FX C X)(lf:Nat):∀fu,MC C (Gg X lf fu).1/\NB C (Gg X lf fu).2
 | 0=>⟨λ_ _ _ h=>by simp[Gg]at h,λ_ _ _ _ _ _ _ h=>by simp[Gg]at h⟩
 |fu+1=>by
  obtain⟨hcp,hcl⟩:=ap hX lf fu;refine⟨λf ds d h=>YR hX hcl hcp h,λf ds H n d H' n' h=>?_⟩;simp only[Gg]at h;split at h
  ·rename_i d0 hp
   cases h;obtain⟨h1,h2⟩:=YR hX hcl hcp hp;exact .ofPure h1 h2
  ·split at h<;>try(cases h;done)
   rename_i d1 H1 n1 hrun;obtain⟨H2,hsub,hgc⟩:=vk (α:=Option (D×Hp×Nat)) n d1 H1 (λH2=>some (d1,H2,n1));rw[hgc]at h;cases h;refine Ct.subH hsub ?_;obtain⟨fn,i,e,s,p,_,a1,a2,a3,a4,a5,a6,a7,a8,a9,rfl,rfl⟩:=ZJ hX hrun;refine Ct.intro hX.tt a1 a2 a3 a4 a5 λF _=>(Ig hX hcl hcp a7).mono ?_
   rintro _ _ ⟨rfl,rfl⟩;exact⟨a6,d,p,a8,a9,rfl,rfl,rfl⟩
theorem Px (hX:FX C X)(lf fu:Nat){f:Nat}{ds:List D}{d:D}(h:(Gg X lf fu).1 f ds=some d):AK C f ds d:=((ap hX lf fu).1 f ds d h).1
end
end
inductive Bt (α:Type) where
 |nil
 |node (k:Nat) (v:α) (l r:Bt α)
def Bt.get {α:Type}:Bt α->Nat->Option α
 | .nil,_=>none
 | .node k v l r,t=>match Nat.beq t k with
  |true=>some v
  |false=>match Nat.ble t k with
   |true=>l.get t
   |false=>r.get t
def Bt.toL {α:Type}:Bt α->List (Nat×α)
 | .nil=>[]
 | .node k v l r=>(k,v)::(l.toL++r.toL)
theorem Bt.get_mem {α:Type}:∀ {b:Bt α} {t:Nat} {v:α},b.get t=some v->(t,v)∈b.toL
 | .nil,_,_,h=>by cases h
 | .node k v l r,t,u,h=>by
  simp only[Bt.get]at h;split at h
  ·rename_i hb;cases h;rw[CA hb];exact CO ..
  ·split at h
   ·exact CT _ (Ke _ (Bt.get_mem h))
   ·exact CT _ (List.mem_append_right _ (Bt.get_mem h))
theorem d9u {P:Program}{b:Bt Aw}(h:b.toL.map (λp=>EX P p.1)=b.toL.map (λp=>some p.2)):Cx P b.get:=λt i hi=>by
 have hm:=Bt.get_mem hi;obtain⟨j,hj,he⟩:=Mm hm
 have:=congrArg (λl=>l[j]?) h
 simp only[A8,Bo hj,he,Jm,BL]at this;exact this
theorem d9v {P:Program}{b:Bt XI}(h:b.toL.map (λp=>MU P p.1)=b.toL.map (λp=>some p.2)):Me P b.get:=λt i hi=>by
 have hm:=Bt.get_mem hi;obtain⟨j,hj,he⟩:=Mm hm
 have:=congrArg (λl=>l[j]?) h
 simp only[A8,Bo hj,he,Jm,BL]at this;exact this
def Js (P:Program) (f:Nat) (i:FI):Prop:=∃fn,P.funcs[f]?=some fn/\fn.body=some i.code/\(fn.name == "runtime.NumGoroutine")=false/\Df fn.ntmps i.code=true/\fn.ntmps=i.nt/\fn.results.toList=i.res
def Pj (P:Program):Bt FI->Prop
 | .nil=>True
 | .node k v l r=>Js P k v/\Pj P l/\Pj P r
theorem WZ {P:Program}:∀ {b:Bt FI},Pj P b->∀f i,b.get f=some i->Js P f i
 | .nil,_,_,_,h=>by cases h
 | .node k v l r,h,f,i,hi=>by
  simp only[Bt.get]at hi;split at hi
  ·rename_i hb;cases hi;rw[CA hb];exact h.1
  ·split at hi
   ·exact WZ h.2.1 f i hi
   ·exact WZ h.2.2 f i hi
def LS (f:Func):FI:=⟨f.ntmps,f.results.toList,f.body.getD .skip⟩
def fw (rd:Option Nat):Fence:={ Fence.wide with round:=rd }
theorem K3 {rd:Option Nat}{n:Nat}{P:Program}{f:FuncId}{args:Array Value}{w:World}{R:Ending->World->Prop}:CallsIn (fw rd) n P f args w R↔Calls P f args w R:=
 (show CallsIn (fw rd) n P f args w R↔CallsIn Fence.wide n P f args w R from Iff.rfl).trans callsIn_wide
theorem L6 {rd:Option Nat}{n:Nat}:(fw rd).depth.isSome=true->1<=n:=λh=>by cases h
theorem Ql {P:Program}{ρ:Operand->Value}{o:Oper}{w w':World}{x:Next}(h:(execOp ρ o).run P w=.ok x w')(hx:∀d,x≠.defer d):∀c,o.op≠.defer c:=λc hc=>by
 unfold execOp at h;simp only[hc]at h;rw[run_bind]at h;split at h
 ·cases h;exact hx _ rfl
 ·cases h
section
variable {C:A9} {F:AY} {ops:Array Oper} {rd:Option Nat} {Q:Exit->Act->World->Prop}
theorem OT {P:Program}{o:Oper}{a:Act}{w w':World}{v:Value}{K:Act->World->Prop}(h:(execOp a.eval o).run P w=.ok (.value v) w')(hk:K (a.put o.dst v) w'):o.wpIn (fw rd) 0 P a w K Q:=by
 refine⟨λ_ _=>trivial,?_⟩;rw[Oper.semAt_eq _ _ _ (Ql h (by simp)),h];exact hk
theorem kO {P:Program}{o:Oper}{a:Act}{w w':World}{K:Act->World->Prop}(h:(execOp a.eval o).run P w=.ok .skip w')(hk:K (a.put o.dst undef) w'):o.wpIn (fw rd) 0 P a w K Q:=by
 refine⟨λ_ _=>trivial,?_⟩;rw[Oper.semAt_eq _ _ _ (Ql h (by simp)),h];exact hk
theorem kL {P:Program}{o:Oper}{a:Act}{w w':World}{f:Nat}{vs:Array Value}{K:Act->World->Prop}(h:(execOp a.eval o).run P w=.ok (.enter f vs) w')
  (hc:Calls P f vs w' λe w''=>∃v,e=.returned v/\K (a.put o.dst v) w''):o.wpIn (fw rd) 0 P a w K Q:=by
 refine⟨λ_ _=>trivial,?_⟩;rw[Oper.semAt_eq _ _ _ (Ql h (by simp)),h];refine⟨L6,K3.2 (hc.mono ?_)⟩;rintro e w'' ⟨v,rfl,hk⟩;exact hk
theorem kM {P:Program}{o:Oper}{a:Act}{w w':World}{l f:Nat}{tmps:Array Value}{as bd:Code}{K:Act->World->Prop}(h:(execOp a.eval o).run P w=.ok (.round l f tmps as bd) w')
  (hc:RoundIn (fw rd) 0 P l f tmps as bd w' λe w''=>∃v,e=.returned v/\K (a.put o.dst v) w''):o.wpIn (fw rd) 0 P a w K Q:=by
 refine⟨λ_ _=>trivial,?_⟩;rw[Oper.semAt_eq _ _ _ (Ql h (by simp)),h];refine⟨L6,hc.mono ?_⟩;rintro e w'' ⟨v,rfl,hk⟩;exact hk
theorem GB {R:Exit->Act->World->Prop}{l2:List Nat}(hR:∀e a w,R e a w->e=.normal/\wpOpsIn (fw rd) 0 C.P ops Q l2 a w)(hnd:∀(i:Nat) (o:Oper),ops[i]?=some o->∀c,o.op≠.defer c):
  ∀(l:List Nat) (a:Act) (w:World),wpOps C.P ops R l a w->wpOpsIn (fw rd) 0 C.P ops Q (l++l2) a w
 | [],a,w,h=>(hR _ _ _ h).2
 |i::l,a,w,h=>by
  have hlet:¬LetsOut R:=λ⟨a,w,h⟩=>by have:=(hR _ _ _ h).1;cases this
  simp only[wpOps]at h;simp only[E2,wpOpsIn];cases ho:ops[i]? with
  |none=>simp only[ho]at h;exact GB hR hnd l a w h
  |some o=>
   simp only[ho]at h;dsimp only;split
   ·rename_i hw
    rw[AH hw]at h;rcases h with h|⟨_,h⟩
    ·unfold Oper.wp at h
     refine⟨λ_ _=>trivial,?_⟩;rw[Oper.semAt_eq _ _ _ (hnd i o ho)]
     revert h
     generalize(execOp a.eval o).run C.P w=r;intro h;unfold Oper.upon at h;unfold Oper.uponIn;split at h
     ·exact GB hR hnd l _ _ h
     ·exact GB hR hnd l _ _ h
     ·exact GB hR hnd l _ _ h
     ·refine⟨L6,K3.2 (h.mono ?_)⟩
      intro e w'' h;cases e with
      |returned v=>exact GB hR hnd l _ _ h
      |panicked c=>have:=(hR _ _ _ h).1;cases this
      |outgrown=>exact Af h hlet
     ·exact⟨L6,λc cs hr=>by
       obtain⟨v,w',h1,h2⟩:=h c cs;exact⟨v,w',GB hR hnd l _ _ h1,stepsIn_wide.2 h2⟩⟩
     ·have:=(hR _ _ _ h).1;cases this
     ·exact h.elim
    ·exact Af h hlet
   ·rename_i hw
    rw[AG hw]at h;exact⟨λ_ _=>trivial,GB hR hnd l _ _ h⟩
theorem Tb {Q:Exit->Act->World->Prop}:∀(l:List Nat) (fuel:Nat) (L:Array Bool) (a:Act) (w:World),L.size=ops.size->l.length<=fuel->(∀i,i<ops.size->(Ls L i↔i∉l))->l.Nodup ->
  (∀A i B,l=A++i::B->(∀j∈Gp ops i,j<ops.size/\j∉i::B)/\∀j∈A,Dx ops i j)->(∀i∈l,i<ops.size)->Cl ops L ->
  wpOpsIn (fw rd) 0 C.P ops Q l a w->wpAnyIn (fw rd) 0 C.P .any ops Q fuel L a w
 | [],fuel,L,a,w,hs,_,hl,_,_,_,_,h=>by
  have hr:Region.ready .any ops L=[]:=by
   apply List.eq_nil_iff_forall_not_mem.2;intro i hi;obtain⟨h1,h2,_⟩:=FF.1 hi
   have:=(hl i h1).2 (by simp)
   unfold Ls at this;rw[At,HB]at this h2;simp at this h2;rw[this]at h2;cases h2
  cases fuel with
  |zero=>exact⟨hr,h⟩
  |succ fuel=>exact⟨λ_=>h,λi hi=>by rw[hr]at hi;simp at hi⟩
 |i::l,0,_,_,_,_,hf,_,_,_,_,_,_=>by simp at hf
 |i::l,fuel+1,L,a,w,hs,hf,hl,hnd,hd,hlt,hcl,h=>by
  have hil:=hlt i (by simp);have hLi:∀j,j<ops.size->(L.getD j true=true↔Ls L j):=λj hj=>by
   unfold Ls;rw[At,At,HB];simp
  have hready:∀j,j∈Region.ready .any ops L↔j=i:=by
   intro j;rw[FF];constructor
   ·rintro⟨h1,h2,h3⟩
    have hj:j∈i::l:=by
     apply DB;intro hn
     have:=(hLi j h1).2 ((hl j h1).2 hn)
     rw[h2]at this;cases this
    apply DB;intro hne;have hjl:j∈l:=by simpa[hne]using hj
    obtain⟨A,B,rfl⟩:=Ea hjl;have hreach:=(hd (i::A) j B (by simp)).2 i (by simp)
    have:=Fp hs hcl hreach h3
    exact Af ((hl i hil).1 this) (by simp)
   ·rintro rfl
    refine⟨hil,?_,λk hk=>?_⟩
    ·cases hb:L.getD j true with
     |false=>rfl
     |true=>exact Af ((hl j hil).1 ((hLi j hil).1 hb)) (by simp)
    ·have hk2:=(hd [] j l rfl).1 k hk
     exact(hl k hk2.1).2 hk2.2
  have hset:∀j,Ls (L.setIfInBounds i true) j↔j=i\/Ls L j:=λj=>Ls.set (by omega)
  refine⟨λh0=>?_,λj hj=>?_⟩
  ·have:=(hready i).2 rfl
   rw[h0]at this;simp at this
  ·obtain rfl:=(hready j).1 hj
   rw[wpOpsIn_cons]at h;obtain⟨n1,n2⟩:=List.nodup_cons.1 hnd;refine wpOpIn_mono (λa w hk=>?_) h;refine Tb l fuel _ a w (by simp[hs]) (by simp at hf;omega) (λk hk2=>?_) n2 (λA k B hAB=>?_) (λk hk2=>hlt k (by simp[hk2])) ?_ hk
   ·rw[hset,hl k hk2]
    by_cases hkj:k=j
    ·subst hkj;simp[n1]
    ·simp[hkj]
   ·obtain⟨q1,q2⟩:=hd (j::A) k B (by simp[hAB])
    exact⟨q1,λx hx=>q2 x (by simp[hx])⟩
   ·intro k hk2 hks x hx
    have hk3:Ls (L.setIfInBounds j true) k:=by
     unfold Ls;rw[At,B3 (by simp;omega)]at hk2⊢;simpa using hk2
    show Ls _ x;rw[hset];rcases(hset k).1 hk3 with rfl|hk3
    ·exact .inr ((FF.1 hj).2.2 x hx)
    ·exact .inr (hcl k ((hLi k hks).2 hk3) hks x hx)
theorem jY {Q:Exit->Act->World->Prop}{H:Hp}{n:Nat}{env:Ap}{rs:List B8}{suf:List Nat}(ho:MP ops rs suf)(hgen:∀e∈H,e.g<n)(hd:∀r∈rs,DZ F.nt r.o=true)
  (hst:∀A r B,rs=A++r::B->ops[r.i]?=some r.o/\B5 C F ops H (n+r.i) (Eo A env) r.o r.d r.ne)
  (hend:∀(L:Array Bool) (a:Act) (w:World) (ρ:Lk) (He:Hp),L.size=ops.size->(∀r∈rs,Ls L r.i)->DI C F H n env rs L a w ρ He->wpOpsIn (fw rd) 0 C.P ops Q suf a w):
  ∀(fuel:Nat) (L:Array Bool) (a:Act) (w:World) (ρ:Lk) (He:Hp),L.size=ops.size->((rs.map (·.i)++suf).filter (λi=>!L.getD i false)).length<=fuel->Cl ops L->(∀i∈suf,¬Ls L i) ->
   DI C F H n env rs L a w ρ He->wpAnyIn (fw rd) 0 C.P .any ops Q fuel L a w:=by
 intro fuel
 induction fuel with
 |zero=>
  intro L a w ρ He hL hf hc hs hi;have h0:(rs.map (·.i)++suf).filter (λi=>!L.getD i false)=[]:=F6 (by omega);have hall:∀r∈rs,Ls L r.i:=λr hr=>by
   have:=List.filter_eq_nil_iff.1 h0 r.i (by simp;exact .inl ⟨r,hr,rfl⟩)
   simpa[Ls]using this
  have hsuf:suf=[]:=by
   apply List.eq_nil_iff_forall_not_mem.2;intro i hi2
   have:=List.filter_eq_nil_iff.1 h0 i (by simp[hi2])
   exact hs i hi2 (by simpa[Ls]using this)
  subst hsuf;refine Tb [] 0 L a w hL (Al _) (λi hi2=>⟨λ_=>by simp,λ_=>?_⟩) .nil (λA i B h=>by cases A<;>simp at h) (by simp) hc (hend L a w ρ He hL hall hi)
  have:=ho.all i hi2
  simp at this;obtain⟨r,hr,rfl⟩:=this;exact hall r hr
 |succ fuel ih=>
  intro L a w ρ He hL hf hc hs hi
  by_cases hall:∀r∈rs,Ls L r.i
  ·refine Tb suf (fuel+1) L a w hL ?_ (λi hi2=>?_) ?_ (λA i B hAB=>⟨λj hj=>?_,λj hj=>ho.suf A i B hAB j (by simp[hj])⟩) (λi hi2=>ho.lt i (by simp[hi2])) hc (hend L a w ρ He hL hall hi)
   ·refine BT ?_ hf
    rw[List.filter_append,Bp];rw[(List.filter_eq_self (l:=suf)).2 λi hi2=>by have:=hs i hi2;unfold Ls at this;simpa using this];omega
   ·constructor
    ·intro h1 h2;exact hs i h2 h1
    ·intro h1
     have:=ho.all i hi2
     rcases B0.1 this with h|h
     ·obtain⟨r,hr,rfl⟩:=By.1 h;exact hall r hr
     ·exact Af h h1
   ·exact(EF.1 ho.nodup).2.1
   ·have hA:=ho.first (rs.map (·.i)++A) i B (by simp[hAB]) j hj
    refine⟨ho.lt j (by rw[hAB];rcases B0.1 hA with h|h<;>simp[h]),λhB=>?_⟩;have hnd:=ho.nodup;rw[hAB,<-EE,EF]at hnd;exact hnd.2.2 j hA j hB rfl
  ·have hnot:∃r∈rs,¬Ls L r.i:=by
    apply DB;intro hn;exact hall λr hr=>DB λh=>hn ⟨r,hr,h⟩
   have hLt:∀j,j<ops.size->(L.getD j true=true↔Ls L j):=λj hj=>by
    unfold Ls;rw[At,At,HB];simp
   have hsome:Region.ready .any ops L≠[]:=by
    obtain⟨r0,hr0,hn0⟩:=hnot
    have:∀X:List B8,∀Y,rs=X++Y->(∃r∈Y,¬Ls L r.i)->(∀r∈X,Ls L r.i)->∃A r B,rs=A++r::B/\¬Ls L r.i/\∀r∈A,Ls L r.i:=by
     intro X Y
     induction Y generalizing X with
     |nil=>rintro _ ⟨r,hr,_⟩ _;simp at hr
     |cons y Y ihY=>
      intro hXY hex hX
      by_cases hy:Ls L y.i
      ·obtain⟨r,hr,hrn⟩:=hex
       rcases Az.1 hr with rfl|hr
       ·exact Af hy hrn
       ·exact ihY (X++[y]) (by simp[hXY]) ⟨r,hr,hrn⟩ (λr hr=>by
         rcases B0.1 hr with h|h
         ·exact hX r h
         ·simp at h;subst h;exact hy)
      ·exact⟨X,y,Y,hXY,hy,hX⟩
    obtain⟨A,r,B,h1,h2,h3⟩:=this [] rs rfl ⟨r0,hr0,hn0⟩ (by simp);intro hnil;have hrlt:=ho.lt r.i (by rw[h1];simp)
    have:r.i∈Region.ready .any ops L:=by
     rw[FF];refine⟨hrlt,?_,λj hj=>?_⟩
     ·cases hb:L.getD r.i true with
      |false=>rfl
      |true=>exact Af ((hLt r.i hrlt).1 hb) h2
     ·have:=ho.first (A.map (·.i)) r.i (B.map (·.i)++suf) (by rw[h1];simp) j hj
      obtain⟨r',hr',rfl⟩:=By.1 this;exact h3 r' hr'
    rw[hnil]at this;simp at this
   refine⟨λh0=>Af h0 hsome,λi hir=>?_⟩;obtain⟨hilt,hin,hid⟩:=FF.1 hir;have hnL:¬Ls L i:=λh=>by rw[(hLt i hilt).2 h]at hin;cases hin
   have hpre:i∈rs.map (·.i):=by
    rcases B0.1 (ho.all i hilt)with h|h
    ·exact h
    ·obtain⟨A,B,hAB⟩:=Ea h
     obtain⟨r0,hr0,hn0⟩:=hnot
     have:=Fp hL hc (ho.suf A i B hAB r0.i (Ke _ (By.2 ⟨r0,hr0,rfl⟩))) hid
     exact Af this hn0
   obtain⟨r,hr,rfl⟩:=By.1 hpre;obtain⟨A,B,hAB⟩:=Ea hr;obtain⟨hor,hgen2,hsteady⟩:=hst A r B hAB;have hset:∀j,Ls (L.setIfInBounds r.i true) j↔j=r.i\/Ls L j:=λj=>Ls.set (by omega)
   have hndr:(rs.map (·.i)).Nodup:=(EF.1 ho.nodup).1;have hsub:∀e∈H,e∈He:=λe he=>hi.perm.mem_iff.2 (by simp[he])
   have hfr:∀k,ρ k (n+r.i)=none:=λk=>by
    apply DB;intro hk;obtain⟨r',h1,h2,h3⟩:=hi.fresh k (n+r.i) (by omega) hk
    have:r'.i=r.i:=by omega
    rw[this]at h2;exact hnL h2
   have hne:∀e∈He,e.g≠n+r.i:=λe he hg=>by
    rcases B0.1 (hi.perm.mem_iff.1 he)with h|h
    ·obtain⟨r',h1,h2⟩:=List.mem_filterMap.1 h
     split at h2
     ·rename_i hl
      obtain⟨A',B',hAB'⟩:=Ea h1
      have:=(hst A' r' B' hAB').2.1 e h2
      have:r'.i=r.i:=by omega
      rw[this]at hl;exact hnL hl
     ·cases h2
    ·have:=hgen e h;omega
   have next:∀v ρ' w',Jc C F He ρ w (n+r.i) r.d r.ne v ρ' w'->wpAnyIn (fw rd) 0 C.P .any ops Q fuel (L.setIfInBounds r.i true) (a.put r.o.dst v) w':=by
    intro v ρ' w' p;have hi':=hi;rw[hAB]at hi' hndr;have hdst:=ho.dst;rw[hAB]at hdst;have hn':=DI.next hi' (by omega) hnL hndr hdst (hd r hr) p;rw[<-hAB]at hn';refine ih _ _ _ ρ' (C9 r.ne He) (by simp[hL]) ?_ ?_ (λj hj=>?_) hn'
    ·have:((rs.map (·.i)++suf).filter (λi=>!(L.setIfInBounds r.i true).getD i false)).length<((rs.map (·.i)++suf).filter (λi=>!L.getD i false)).length:=by
      have sub:(rs.map (·.i)++suf).filter (λi=>!(L.setIfInBounds r.i true).getD i false)=((rs.map (·.i)++suf).filter (λi=>!L.getD i false)).filter (λi=>!Nat.beq i r.i):=by
       rw[List.filter_filter];apply List.filter_congr;intro x hx;have h1:=hset x;unfold Ls at h1
       by_cases hxr:x=r.i
       ·subst hxr
        have:(L.setIfInBounds r.i true).getD r.i false=true:=h1.2 (.inl rfl)
        simp[this]
       ·have hb:Nat.beq x r.i=false:=by
         cases hb:Nat.beq x r.i with
         |false=>rfl
         |true=>exact Af (CA hb) hxr
        rw[hb]
        by_cases hlx:L.getD x false=true
        ·rw[h1.2 (.inr hlx),hlx];rfl
        ·have:¬(L.setIfInBounds r.i true).getD x false=true:=λh=>hlx ((h1.1 h).resolve_left hxr)
         simp only[Bool.not_eq_true]at this hlx;rw[this,hlx];rfl
      rw[sub];apply List.length_filter_lt_length_iff_exists.2;exact⟨r.i,by rw[List.mem_filter];exact⟨by simp;exact .inl ⟨r,hr,rfl⟩,by unfold Ls at hnL;simpa using hnL⟩,by simp⟩
     omega
    ·intro k hk2 hks x hx
     have hk3:Ls (L.setIfInBounds r.i true) k:=by
      unfold Ls;rw[At,B3 (by simp;omega)]at hk2⊢;simpa using hk2
     show Ls _ x;rw[hset];rcases(hset k).1 hk3 with rfl|hk3
     ·exact .inr (hid x hx)
     ·exact .inr (hc k ((hLt k hks).2 hk3) hks x hx)
    ·rw[hset]
     rintro(rfl|h)
     ·have hnd:=ho.nodup
      rw[EF]at hnd;exact hnd.2.2 r.i (By.2 ⟨r,hr,rfl⟩) r.i hj rfl
     ·exact hs j hj h
   unfold wpOpIn;simp only[hor];rcases hsteady He ρ a w hi.mem hsub hfr hne (hi.look ho hL hc hAB hir)with⟨hw,hn0,hrep⟩|⟨hw,hout⟩
   ·rw[AG (by rw[hw];simp)]
    exact⟨λ_ _=>trivial,next undef ρ w ⟨by rw[hn0];exact hi.mem,by rw[hn0];exact .refl _ _ _,λ_ _ _=>rfl,by rw[hn0];exact hrep⟩⟩
   ·rw[AH hw]
    rcases hout with⟨v,ρ',w',h1,h2⟩|⟨f,vs,h1,h2⟩
    ·exact OT h1 (next v ρ' w' h2)
    ·refine kL h1 (h2.mono ?_)
     rintro e w' ⟨v,rfl,ρ',h3⟩;exact⟨v,rfl,next v ρ' w' h3⟩
theorem xW {R:Exit->Act->World->Prop}{i:Nat}{s:St}{pre suf:List Nat}{envF:Ap}{N:Hp}(hm:C.P.follows .mixedOrders=true)(hc:HL ops pre suf=true)
  (hpre:JJ C F ops s.H s.n pre s.env [] envF N)
  (h:(∀j∈suf,j<ops.size)->∀(ρ:Lk) (a:Act) (w:World),Bn C F ρ ⟨envF,N++s.H,s.n+ops.size⟩ a w->wpOpsIn (fw rd) 0 C.P ops R suf a w) (hd:ops.toList.all (DZ F.nt)=true) (ρ:Lk) (a:Act) (w:World) (hs:Bn C F ρ s a w):
  (Code.region i ops true).wpIn (fw rd) 0 C.P R a w:=by
 obtain⟨rs,h1,h2,h3,h4⟩:=hpre.recs;have hor:∀r∈rs,ops[r.i]?=some r.o:=λr hr=>by
  obtain⟨A,B,hAB⟩:=Ea hr;exact(h4 A r B hAB).1
 have ho:=RG h1 hor hc;have hds:∀r∈rs,DZ F.nt r.o=true:=λr hr=>by
  refine CY.1 hd r.o ?_
  have:=hor r hr
  exact Hw.2 (IU this)
 have hrep:∀j,(Array.replicate ops.size false).getD j false=false:=λj=>by
  rw[At];rw[Lf];split<;>rfl
 have hnL:∀j,¬Ls (Array.replicate ops.size false) j:=λj hj=>by unfold Ls at hj;rw[hrep]at hj;cases hj
 refine wpIn_region_any hm ?_;have hin:DI C F s.H s.n s.env rs (Array.replicate ops.size false) a w.drew ρ s.H:=by
  refine⟨hs.mem.drew,?_,λr _ hl=>Af hl (hnL _),λt _=>(hs.env t).mono (.drew _ _ _),λk g hg hk=>Af (hs.fresh k g hg) hk,hs.nt,hs.dfr⟩
  have:rs.filterMap (λr=>if(Array.replicate ops.size false).getD r.i false then r.ne else none)=[]:=by
   rw[S2];intro r _;rw[hrep];rfl
  rw[this];exact List.Perm.refl _
 refine jY ho hs.gen hds h4 ?_ ops.size _ a w.drew ρ s.H (by simp) ?_ ?_ (λj _=>hnL j) hin
 ·intro L a' w' ρ' He hL hall hi
  have hN:He.Perm (N++s.H):=by
   refine hi.perm.trans (List.Perm.append_right _ ?_);have e:rs.filterMap (λr=>if L.getD r.i false then r.ne else none)=rs.filterMap (·.ne):=Jy λr hr=>by
    have:=hall r hr;unfold Ls at this;rw[this];rfl
   rw[e,h3]
   have:=Ly rs []
   rw[Dm]at this;exact this.symm
  refine h (λj hj=>ho.lt j (by simp[hj])) ρ' a' w' ⟨hi.mem.perm hN,?_,?_,λt=>?_,hi.nt,hi.dfr⟩
  ·intro k g hg
   apply DB;intro hk;obtain⟨r,hr,_,he⟩:=hi.fresh k g (by simp at hg;omega) hk
   have:=ho.lt r.i (by simp;exact .inl ⟨r,hr,rfl⟩)
   simp at hg;omega
  ·intro e he
   rcases B0.1 he with he|he
   ·rw[h3]at he
    have he:=(Ly rs []).mem_iff.1 he;rw[Dm]at he;obtain⟨r,hr,hre⟩:=List.mem_filterMap.1 he;obtain⟨A,B,hAB⟩:=Ea hr
    have:=(h4 A r B hAB).2.1 e hre
    have:=ho.lt r.i (by simp;exact .inl ⟨r,hr,rfl⟩)
    show e.g<s.n+ops.size;omega
   ·have:=hs.gen e he
    show e.g<s.n+ops.size;omega
  ·show AV ρ' (AM F.X ρ' (N++s.H)) w' (envF.get t) _
   rw[<-AM.perm hN,h2]
   by_cases hw:∃r∈rs,r.o.dst=some t
   ·obtain⟨r,hr,hrd⟩:=hw
    rw[L5 rs s.env t ho.dst r hr hrd];exact hi.reps r hr (hall r hr) t hrd
   ·rw[JN rs s.env t λr hr hrd=>hw ⟨r,hr,hrd⟩]
    exact hi.old t λr hr _ hrd=>hw ⟨r,hr,hrd⟩
 ·refine BT (List.length_filter_le _ _) ?_
  have hsub:∀(l:List Nat) (n:Nat),l.Nodup->(∀x∈l,x<n)->l.length<=n:=by
   intro l n
   induction n generalizing l with
   |zero=>intro _ h;cases l with
    |nil=>simp
    |cons x l=>exact Af (h x (by simp)) (by omega)
   |succ n ihn=>
    intro hnd hlt;have h1:=ihn (l.erase n) (hnd.erase n) λx hx=>by
     have:=hlt x (List.mem_of_mem_erase hx)
     have:x≠n:=λh=>by subst h;exact(S4 hnd) hx
     omega
    have:=List.length_erase (a:=n) (l:=l)
    split at this<;>omega
  exact hsub _ _ ho.nodup ho.lt
 ·intro k hk
  have:k<ops.size\/¬k<ops.size:=by omega
  rcases this with hlt|hlt
  ·rw[At,Lf,AH hlt]at hk;cases hk
  ·intro h;exact Af h hlt
theorem J6 {R Q:Exit->Act->World->Prop}(hR:∀e a w,R e a w->e=.normal/\Q .normal a w)(hnd:∀(i:Nat) (o:Oper),ops[i]?=some o->∀c,o.op≠.defer c):
  ∀(fuel:Nat) (L:Array Bool) (a:Act) (w:World),wpAny C.P .any ops R fuel L a w->wpAnyIn (fw rd) 0 C.P .any ops Q fuel L a w
 | 0,L,a,w,h=>⟨h.1,(hR _ _ _ h.2).2⟩
 |fuel+1,L,a,w,h=>⟨λh0=>(hR _ _ _ (h.1 h0)).2,λi hi=>by
   have hlet:¬LetsOut R:=λ⟨a,w,h⟩=>by have:=(hR _ _ _ h).1;cases this
   have hq:=h.2 i hi;unfold wpOp at hq;unfold wpOpIn;split
   ·rename_i ho;simp only[ho]at hq;exact J6 hR hnd fuel _ a w hq
   ·rename_i o ho
    simp only[ho]at hq;split
    ·rename_i hw
     rw[AH hw]at hq;rcases hq with hq|⟨_,hq⟩
     ·unfold Oper.wp at hq
      refine⟨λ_ _=>trivial,?_⟩;rw[Oper.semAt_eq _ _ _ (hnd i o ho)]
      revert hq
      generalize(execOp a.eval o).run C.P w=r;intro hq;unfold Oper.upon at hq;unfold Oper.uponIn;split at hq
      ·exact J6 hR hnd fuel _ _ _ hq
      ·exact J6 hR hnd fuel _ _ _ hq
      ·exact J6 hR hnd fuel _ _ _ hq
      ·refine⟨L6,K3.2 (hq.mono ?_)⟩
       intro e w'' h;cases e with
       |returned v=>exact J6 hR hnd fuel _ _ _ h
       |panicked c=>have:=(hR _ _ _ h).1;cases this
       |outgrown=>exact Af h hlet
      ·exact⟨L6,λc cs hr=>by
        obtain⟨v,w',h1,h2⟩:=hq c cs;exact⟨v,w',J6 hR hnd fuel _ _ _ h1,stepsIn_wide.2 h2⟩⟩
      ·have:=(hR _ _ _ hq).1;cases this
      ·exact hq.elim
     ·exact Af hq hlet
    ·rename_i hw
     rw[AG hw]at hq;exact⟨λ_ _=>trivial,J6 hR hnd fuel _ _ _ hq⟩⟩
end
end Go.Ide
